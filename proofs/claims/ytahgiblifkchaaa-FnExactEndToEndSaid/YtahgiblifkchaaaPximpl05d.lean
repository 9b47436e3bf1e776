-- Written by a program of ours (myprint.py, by way of the kit's print) out of Lean's print of the translation.
import Derived.Test.YtahgiblifkchaaaShelf
import Derived.Test.YtahgiblifkchaaaPx0
import Derived.Test.YtahgiblifkchaaaPximpl01b
import Derived.Test.YtahgiblifkchaaaPximpl05b
import Derived.Test.YtahgiblifkchaaaPximpl05c
namespace Go.Proofs.Ytahgiblifkchaaa.P
open Go.RowKit Go.Proofs.YtahgiblifkchaaaW.PrintWords Go.Proofs.YtahgiblifkchaaaW.PrintLast Go.Proofs.YtahgiblifkchaaaW.PrintMore
attribute [local go_sem] max2_int min2_int max_two min_two max_three min_three max_four min_four   -- for this text's walks alone
set_option linter.unusedVariables false
set_option linter.unusedSimpArgs false

/-! ### impl_EndToEnd: function 68 (by hand) -/
-- IMPORT Shelf
-- what kept answers is said beside impl_Without
theorem contains_R {w : World} {base : Nat} {v : Value} {xs : List ByteArray} {ok : Nat → Prop} (hR : Kd.R Kd.string 9 w base ok v xs) (h1 : xs.length ≤ 9223372036854775807) (x : ByteArray) :
    Calls Try.prog 122 #[v, .string x] w fun e w' => e = .returned (.bool (Go.Lib.containsS xs x)) ∧ w' = w := by
  obtain ⟨inner, ho⟩ := Kd.R_own hR
  rcases ho.2 with ⟨rfl, h0⟩ | ⟨g, cap, cur, rfl, hg, hh, hc, hm, hs, ht⟩
  · obtain rfl : xs = [] := List.length_eq_zero_iff.mp h0
    refine (Try.slices_Contains_string_empty none 0 x w).mono ?_
    rintro e w' ⟨rfl, rfl⟩
    exact ⟨rfl, rfl⟩
  · have hcs : ∀ j, j < xs.length → w.cell? ⟨g, 0 + j, none⟩ = some (.string (xs.getD j ByteArray.empty)) := by
      intro j hj
      have hcell := (Kd.R_cell ByteArray.empty hR (j : Int) (by omega) (by omega)).1
      rw [Nat.zero_add]
      simpa [rdOf] using hcell
    refine (Try.slices_Contains_string g 0 xs.length cap xs x w (Nat.le_refl _) h1 hcs).mono ?_
    rintro e w' ⟨rfl, rfl⟩
    rw [List.take_length]
    exact ⟨rfl, rfl⟩
def endT : Bool × List (List Nat × List Nat) := (true, [([], []), ([], []), ([1], [1]), ([0, 2, 2], [0, 2]), ([3], [3]), ([4, 3, 0, 1, 2, 3, 4], [4])])
def endB : List Nat := [0, 0, 2, 7, 15, 31]
theorem end_tab : rtab .any (opsOf Try.f121 1) = endT := by kernel_rfl
theorem end_bits : waitsOk endT.2 endB = true := by kernel_rfl
set_option maxHeartbeats 8000000 in
set_option maxRecDepth 100000 in
theorem end_asked (x : ByteArray) (hops : List ByteArray) (b : Bool) (B : Nat) (v : Value) (base : Nat) (ok : Nat → Prop) (w : World) (hl : hops.length ≤ 9223372036854775807) (h : ((impl_Fold.f x).bind fun t => some (!(Go.Lib.containsS hops t))) = some b) (hc : w.cell? ⟨B, 0, none⟩ = some v) (hR : Kd.R Kd.string 9 w base ok v hops) :
    Calls Try.prog 121 #[.string x, .pointer (some ⟨B, 0, none⟩)] w fun e w' => e = .returned (.bool b) ∧ Below w.heap.size w w' := by
  obtain ⟨t, A0, H⟩ := Option.bind_eq_some_iff.mp h
  have A := Aside0.mk A0
  clear A0 h
  obtain rfl := Option.some.inj H
  have HR := Aside0.mk hR
  have HL := Aside0.mk hl
  clear hR hl H
  obtain ⟨Av, cv, rfl⟩ := R_slice HR.out
  go_enter Try.func121, Try.ntmps121
  go_wp2_with fail
  have hBlt : B < w.heap.size := World.block_lt_of_cell? w ⟨B, 0, none⟩ hc
  have HC := Aside0.mk hc
  have HBL := Aside0.mk hBlt
  clear hc hBlt
  refine start_ (n := 6) (S := fun w' => w'.cell? ⟨B, 0, none⟩ = some (.slice Av hops.length cv)) (ds := []) #[false, false, false, false, false, false] (by kernel_rfl) rfl rfl HC.out (fun hHeld => ?_); refine with_tabW end_tab end_bits (fun HT_ HW_ => ?_)
  have HR1 := Aside0.mk (show Kd.R Kd.string 9 w.drew base ok (.slice Av hops.length cv) hops from Kd.R_drew HR.out)
  have HB := Aside0.mk (show Below w.heap.size w w.drew from below_drew (Below.refl _ _))
  have hsz : w.drew.heap.size = w.heap.size := rfl
  clear HR HC
  generalize w.drew = w16 at HR1 HB hsz hHeld ⊢
  refine take_ (i := 0) (N := some 4) (v := ?_) (a' := ?_) #[true, false, false, false, false, false] rfl rfl (take_ofW HT_.out HW_.out (by kernel_rfl)) (fun _ _ _ h => h) (Or.inl ⟨by rfl, ?_⟩) hHeld ?_ ?_
  rotate_left
  · rintro w' s0
    go_simp
    with_reducible rfl
  rotate_left
  · simp only [Act.put, List.setIfInBounds_toArray, List.set_cons_zero, List.set_cons_succ, i64_w, i32_w]
    rfl
  refine pure_ (i := 1) (N := some 5) (v := ?_) (a' := ?_) #[true, true, false, false, false, false] rfl rfl (any_of HT_.out (by kernel_rfl)) (fun _ _ _ h => h) (Or.inl ⟨by rfl, ?_⟩) ?_ ?_
  rotate_left
  · intro w'
    go_simp
    with_reducible rfl
  rotate_left
  · simp only [Act.put, List.setIfInBounds_toArray, List.set_cons_zero, List.set_cons_succ, i64_w, i32_w]
    rfl
  refine one_ (i := 2) (N := some 6) #[true, true, true, false, false, false] rfl rfl (one_of HT_.out (by kernel_rfl)) (by decide) (fun K hK => ?_)
  refine goes_ Try.func112 (by kernel_rfl) rfl #[.string x] (by rfl) rfl rfl (by (try simp only [List.map_toArray, List.map_cons, List.map_nil]); first | done | rfl) ?_
  refine (impl_Fold.calls x t _ A.out).mono ?_
  rintro e w17 ⟨rfl, hb⟩
  refine ⟨_, rfl, ?_⟩
  have n0_ := Aside0.mk (Kd.R_below HR1.out hb)
  have n1_ := Aside0.mk (below_step HB.out hb)
  have n2_ := (hb.cell (p := ⟨B, 0, none⟩) (by have := HBL.out; rw [hsz]; exact this)).trans hHeld
  clear HR1 HB hb hsz hHeld
  have HR1 := n0_
  have HB := n1_
  clear n0_ n1_
  refine hK.out _ _ n2_ (fun hHeld => ?_)
  clear hK K n2_
  refine norm_ (a' := ?_) ?_ ?_
  rotate_left
  · show Act.put _ (some 6) _ = _
    simp only [Act.put, List.setIfInBounds_toArray, List.set_cons_zero, List.set_cons_succ, i64_w, i32_w]
    rfl
  refine one_ (i := 3) (N := some 7) #[true, true, true, true, false, false] rfl rfl (one_of HT_.out (by kernel_rfl)) (by decide) (fun K hK => ?_)
  refine goes_ Try.func122 (by kernel_rfl) rfl #[.slice Av hops.length cv, .string t] (by rfl) rfl rfl (by (try simp only [List.map_toArray, List.map_cons, List.map_nil]); first | done | rfl) ?_
  refine (contains_R HR1.out HL.out t).mono ?_
  rintro e w18 ⟨rfl, hw18⟩
  subst hw18
  refine ⟨_, rfl, ?_⟩
  refine hK.out _ _ hHeld (fun hHeld2 => ?_)
  clear hK K hHeld
  refine norm_ (a' := ?_) ?_ ?_
  rotate_left
  · show Act.put _ (some 7) _ = _
    simp only [Act.put, List.setIfInBounds_toArray, List.set_cons_zero, List.set_cons_succ, i64_w, i32_w]
    rfl
  refine pure_ (i := 4) (N := some 8) (v := ?_) (a' := ?_) #[true, true, true, true, true, false] rfl rfl (any_of HT_.out (by kernel_rfl)) (fun _ _ _ h => h) (Or.inl ⟨by rfl, ?_⟩) ?_ ?_
  rotate_left
  · intro w'
    go_simp
    with_reducible rfl
  rotate_left
  · simp only [Act.put, List.setIfInBounds_toArray, List.set_cons_zero, List.set_cons_succ, i64_w, i32_w]
    rfl
  refine pure_ (i := 5) (N := some 3) (v := ?_) (a' := ?_) #[true, true, true, true, true, true] rfl rfl (any_of HT_.out (by kernel_rfl)) (fun _ _ _ h => h) (Or.inl ⟨by rfl, ?_⟩) ?_ ?_
  rotate_left
  · intro w'
    go_simp
    with_reducible rfl
  rotate_left
  · simp only [Act.put, List.setIfInBounds_toArray, List.set_cons_zero, List.set_cons_succ, i64_w, i32_w]
    rfl
  refine done_ (done_of HT_.out (by kernel_rfl)) ?_
  try go_wp2
  go_ret
  exact ⟨rfl, HB.out⟩
set_option maxHeartbeats 8000000 in
set_option maxRecDepth 100000 in
def impl_EndToEnd.f (k : Nat) (l0 : List S71) : Option (List S71) := (impl_HopNames.f k l0).bind fun hops => if hops.length ≤ 9223372036854775807 then keptF (fun x => (impl_Fold.f x).bind fun t => some (!(Go.Lib.containsS hops t))) k l0 else none
theorem impl_EndToEnd.mono : ∀ a0 k, LeO (impl_EndToEnd.f k a0) (impl_EndToEnd.f (k + 1) a0) := by
  intro a0 k
  unfold impl_EndToEnd.f keptF
  exact LeO.bind (impl_HopNames.mono _ _) fun hops => LeO.ite (LeO.bind (impl_FieldsOk.mono _ _) fun ok => LeO.ite (kept_mono_l _ _ _ _ _) (LeO.refl _)) (LeO.refl _)
set_option maxHeartbeats 8000000 in
set_option maxRecDepth 100000 in
theorem impl_EndToEnd.calls (k : Nat) (A0 : Option Addr) (c0 : Nat) (l0 : List S71) (r : List S71) (w : World) (hr0 : Kd.C k71 w A0 l0.length l0) (hc0 : l0.length ≤ c0) (h : impl_EndToEnd.f k l0 = some r) :
    Calls Try.prog 68 #[.slice A0 l0.length c0] w fun e w' => ∃ v0_ : Value, e = .returned (v0_) ∧ Kd.R k71 71 w' w.heap.size (fun _ => True) v0_ r ∧ Below w.heap.size w w' := by
  obtain ⟨hops, A10, H⟩ := Option.bind_eq_some_iff.mp h
  by_cases hl : hops.length ≤ 9223372036854775807
  case neg => rw [if_neg hl] at H; cases H
  rw [if_pos hl] at H
  have HR0 := Aside0.mk hr0
  have HC0 := Aside0.mk hc0
  have A1 := Aside0.mk A10
  have A2 := Aside0.mk H
  have HL := Aside0.mk hl
  clear hr0 hc0 h A10 H hl
  go_enter Try.func68, Try.ntmps68
  go_wp2_with fail
  refine (impl_HopNames.calls k _ _ l0 hops _ HR0.out HC0.out A1.out).mono ?_
  rintro e w5 ⟨v5, rfl, hr5, hb⟩
  dsimp only
  have n0_ := Aside0.mk (Kd.C_below HR0.out hb)
  have HO5 := Aside0.mk hr5
  have HB := Aside0.mk hb
  clear HR0 hr5 hb
  have HR0 := n0_
  clear n0_
  obtain ⟨A5, c5, rfl⟩ := R_slice HO5.out
  go_wp2_with fail
  have hcell : (w5.alloc (Obj.cells #[Value.slice A5 hops.length c5] 40)).cell? ⟨w5.heap.size, 0, none⟩ = some (.slice A5 hops.length c5) := by
    rw [cell_of_row _ w5.heap.size 0 _ _ _ (blk_new w5 _)]; rfl
  have hbel : Below w.heap.size w (w5.alloc (Obj.cells #[Value.slice A5 hops.length c5] 40)) := HB.out.alloc HB.out.size _
  have hC : Kd.C k71 (w5.alloc (Obj.cells #[Value.slice A5 hops.length c5] 40)) A0 l0.length l0 := Kd.C_alloc HR0.out _
  have hR5 : Kd.R Kd.string 9 (w5.alloc (Obj.cells #[Value.slice A5 hops.length c5] 40)) w.heap.size (fun _ => True) (.slice A5 hops.length c5) hops := Kd.R_alloc HO5.out _
  have hlt : w5.heap.size < (w5.alloc (Obj.cells #[Value.slice A5 hops.length c5] 40)).heap.size := blk_lt (blk_new w5 _)
  generalize w5.alloc (Obj.cells #[Value.slice A5 hops.length c5] 40) = w6 at hcell hbel hC hR5 hlt ⊢
  refine (kept_calls (fun x => (impl_Fold.f x).bind fun t => some (!(Go.Lib.containsS hops t))) 121 Try.f121 Try.func121 (by kernel_rfl) rfl #[.pointer (some ⟨w5.heap.size, 0, none⟩)] w6 ?_ k A0 c0 l0 r hC HC0.out A2.out).mono ?_
  · intro W x b hB hp
    exact end_asked x hops b w5.heap.size (.slice A5 hops.length c5) w.heap.size (fun _ => True) W HL.out hp ((hB.cell (p := ⟨w5.heap.size, 0, none⟩) hlt).trans hcell) (Kd.R_below hR5 hB)
  · rintro e w7 ⟨v7, rfl, hr7, hb⟩
    dsimp only
    have n0_ := Aside0.mk (Kd.R_lower hr7 hbel.size)
    have n1_ := Aside0.mk (below_step hbel hb)
    clear hcell hbel hC hR5 hlt hr7 hb HB HR0 HO5
    have HO7 := n0_
    have HB := n1_
    clear n0_ n1_
    go_wp2
    go_ret
    exact ⟨_, rfl, HO7.out, HB.out⟩

end Go.Proofs.Ytahgiblifkchaaa.P
