-- Written by a program of ours (myprint.py, by way of the kit's print) out of Lean's print of the translation.
import Derived.Test.YtahgiblifkchaaaDoorPx0
import Derived.Test.YtahgiblifkchaaaDoorPximpl01b
import Derived.Test.YtahgiblifkchaaaDoorPximpl01d
namespace Go.Proofs.YtahgiblifkchaaaDoor.P
open Go.RowKit Go.Proofs.YtahgiblifkchaaaDoorW.PrintWords Go.Proofs.YtahgiblifkchaaaDoorW.PrintLast Go.Proofs.YtahgiblifkchaaaDoorW.PrintMore
attribute [local go_sem] max2_int min2_int max_two min_two max_three min_three max_four min_four   -- for this text's walks alone
set_option linter.unusedVariables false
set_option linter.unusedSimpArgs false

def impl_all__impl_isPlain.l0 : Nat → ByteArray → Int → Option (Bool)
 | 0, _, _ => none
 | k + 1, x0, x5 => if x5 < (x0.size : Int) then (if 0 ≤ x5 then ((impl_isPlain.f (bt x0 x5)).bind fun t263 => (if t263 = true then (impl_all__impl_isPlain.l0 k x0 (wrap64 (x5 + 1))) else (some false))) else (none)) else (some true)
def impl_all__impl_isPlain.f (k : Nat) (a0 : ByteArray)  : Option (Bool) := impl_all__impl_isPlain.l0 k a0 0
theorem impl_all__impl_isPlain.mono_l : ∀ k, (∀ y0 y1, LeO (impl_all__impl_isPlain.l0 k y0 y1) (impl_all__impl_isPlain.l0 (k + 1) y0 y1))
 | 0 => fun _ _ r h => by simp [impl_all__impl_isPlain.l0] at h
 | k + 1 => by
  have ih0 := impl_all__impl_isPlain.mono_l k
  ·intro y0 y1
   unfold impl_all__impl_isPlain.l0
   repeat' first
   | (with_reducible exact ih0 _ _)
   | (with_reducible exact LeO.refl _)
   | (with_reducible exact LeO.none _)
   | (with_reducible refine LeO.ite ?_ ?_)
   | (with_reducible refine LeO.bind ?_ (fun _ => ?_))
   | exact ih0 _ _
   | exact LeO.none _
   | refine LeO.ite ?_ ?_
   | refine LeO.bind ?_ (fun _ => ?_)
theorem impl_all__impl_isPlain.mono : ∀ a0 k, LeO (impl_all__impl_isPlain.f k a0) (impl_all__impl_isPlain.f (k + 1) a0) := by
 intro a0 k
 have ih0 := impl_all__impl_isPlain.mono_l k
 unfold impl_all__impl_isPlain.f
 repeat' first
   | (with_reducible exact ih0 _ _)
   | (with_reducible exact LeO.refl _)
   | (with_reducible exact LeO.none _)
   | (with_reducible refine LeO.ite ?_ ?_)
   | (with_reducible refine LeO.bind ?_ (fun _ => ?_))
   | exact ih0 _ _
   | exact LeO.none _
   | refine LeO.ite ?_ ?_
   | refine LeO.bind ?_ (fun _ => ?_)
set_option maxHeartbeats 8000000 in
set_option maxRecDepth 100000 in
theorem impl_all__impl_isPlain.calls (k : Nat) (a0 : ByteArray)  (r : Bool) (w : World) (h : impl_all__impl_isPlain.f k a0 = some r) :
  Calls Tryd.prog 40 #[.string a0, .func (.func 54) #[] #[]] w fun e w' => e = .returned (.bool r) ∧ Drawn0 w w' := by
 have H : (impl_all__impl_isPlain.l0 k a0 0) = some r := h
 clear h
 have H' := Aside0.mk H
 clear H
 go_enter Tryd.func40, Tryd.ntmps40
 go_wp2
 go_loopg [5] k (fun kq v5 w' => ∃ (x5_1 : Int), v5 = .int .i64 x5_1 ∧ Aside0 (impl_all__impl_isPlain.l0 kq a0 x5_1 = some r) ∧ Aside0 (kq ≤ k) ∧ Drawn0 w w')
 case atStart => exact ⟨(0), (by first | rfl | (simp; done) | (simp [*]; done)), H', ⟨Nat.le_refl _⟩, by repeat (first | exact Drawn0.refl _ | apply Drawn0.step)⟩
 case round =>
  clear H'
  try clear p2
  obtain ⟨x5_1, rfl, HA, HK1, ⟨m1, rfl⟩⟩ := hrel
  cases gk with
  | zero => exact absurd HA.out (by simp [impl_all__impl_isPlain.l0])
  | succ k1 =>
   have H := HA.out
   clear HA
   simp only [impl_all__impl_isPlain.l0] at H
   by_cases c3 : x5_1 < (a0.size : Int)
   ·rw [if_pos c3] at H
    have c3b0 : decide (x5_1 < (a0.size : Int)) = true := decide_eq_true c3
    clear c3
    by_cases c4 : 0 ≤ x5_1
    ·rw [if_pos c4] at H
     have c4b0 : decide (0 ≤ x5_1) = true := decide_eq_true c4
     clear c4
     replace H := Option.bind_eq_some_iff.mp H
     obtain ⟨t263, A60, H⟩ := H
     replace H : (if t263 = true then (impl_all__impl_isPlain.l0 k1 a0 (wrap64 (x5_1 + 1))) else (some false)) = some r := H
     have A6 := Aside0.mk A60
     clear A60
     by_cases c7 : t263 = true
     ·subst c7
      have H1 : (impl_all__impl_isPlain.l0 k1 a0 (wrap64 (x5_1 + 1))) = some r := by rw [if_pos rfl] at H; exact H
      clear H
      have H := H1
      clear H1
      have H' := Aside0.mk H
      clear H
      have p5 : 0 ≤ (x5_1 : Int) := of_decide_eq_true (by first | (with_reducible assumption) | assumption)
      have q5 : x5_1 < (a0.size : Int) := of_decide_eq_true (by first | (with_reducible assumption) | assumption)
      have hx5 := bt_at a0 x5_1
      replace p5 := eq_true p5
      replace q5 := eq_true q5
      go_wp2_with (first | (go_at_call 54; (with_reducible refine (impl_isPlain.calls (bt a0 x5_1) true _ A6.out).mono ?_); rintro e w' ⟨rfl, ⟨nd, rfl⟩⟩))
      go_roundg k1
      case measure => have := HK1.out; omega
      case rel => exact ⟨(wrap64 (x5_1 + 1)), (by first | rfl | (simp; done) | (simp [*]; done)), H', ⟨by have := HK1.out; omega⟩, by repeat (first | exact Drawn0.refl _ | apply Drawn0.step)⟩
     ·replace c7 := Bool.eq_false_iff.mpr c7
      subst c7
      have H1 : (some false) = some r := by rw [if_neg (show ¬ (false = true) by decide)] at H; exact H
      clear H
      have H := H1
      clear H1
      obtain rfl := Option.some.inj H
      have p5 : 0 ≤ (x5_1 : Int) := of_decide_eq_true (by first | (with_reducible assumption) | assumption)
      have q5 : x5_1 < (a0.size : Int) := of_decide_eq_true (by first | (with_reducible assumption) | assumption)
      have hx5 := bt_at a0 x5_1
      replace p5 := eq_true p5
      replace q5 := eq_true q5
      go_wp2_with (first | (go_at_call 54; (with_reducible refine (impl_isPlain.calls (bt a0 x5_1) false _ A6.out).mono ?_); rintro e w' ⟨rfl, ⟨nd, rfl⟩⟩))
      go_ret
      exact ⟨by first | rfl | (simp; done) | (simp [*]; done), by repeat (first | exact Drawn0.refl _ | apply Drawn0.step)⟩
    ·rw [if_neg c4] at H
     exact absurd H (by simp)
   ·rw [if_neg c3] at H
    have c3b0 : decide (x5_1 < (a0.size : Int)) = false := decide_eq_false c3
    clear c3
    obtain rfl := Option.some.inj H
    go_wp2
    go_ret
    exact ⟨by first | rfl | (simp; done) | (simp [*]; done), by repeat (first | exact Drawn0.refl _ | apply Drawn0.step)⟩

def impl_SameFold.f (a0 : ByteArray) (a1 : ByteArray) : Option (Bool) := (impl_Fold.f a0).bind fun t274 => ((impl_Fold.f a1).bind fun t275 => (some (t274.toList == t275.toList)))
set_option maxHeartbeats 8000000 in
set_option maxRecDepth 100000 in
theorem impl_SameFold.calls (a0 : ByteArray) (a1 : ByteArray) (r : Bool) (w : World) (h : impl_SameFold.f a0 a1 = some r) :
  Calls Tryd.prog 66 #[.string a0, .string a1] w fun e w' => e = .returned (.bool r) ∧ Below w.heap.size w w' := by
 have HB := Aside0.mk (Below.refl w.heap.size w)
 have H : ((impl_Fold.f a0).bind fun t274 => ((impl_Fold.f a1).bind fun t275 => (some (t274.toList == t275.toList)))) = some r := h
 clear h
 replace H := Option.bind_eq_some_iff.mp H
 obtain ⟨t274, A30, H⟩ := H
 replace H : ((impl_Fold.f a1).bind fun t275 => (some (t274.toList == t275.toList))) = some r := H
 have A3 := Aside0.mk A30
 clear A30
 replace H := Option.bind_eq_some_iff.mp H
 obtain ⟨t275, A40, H⟩ := H
 replace H : (some (t274.toList == t275.toList)) = some r := H
 have A4 := Aside0.mk A40
 clear A40
 obtain rfl := Option.some.inj H
 go_enter Tryd.func66, Tryd.ntmps66
 go_wp2_with (first | ((with_reducible refine gate_callee (f := 30) rfl ?_); refine goesL_ (some 6) rfl rfl Tryd.func30 (by kernel_rfl) rfl #[.string a0] rfl (by (try simp only [List.map_toArray, List.map_cons, List.map_nil]); first | done | rfl | (simp only [List.length_drop, List.length_take]; rfl)) ?_; (with_reducible refine (impl_Fold.calls a0 t274 _ A3.out).mono ?_); rintro e w5 ⟨rfl, hb⟩; refine ⟨_, rfl, ?_⟩; have n0_ := Aside0.mk (below_step (by repeat (first | (with_reducible first | exact HB.out | apply below_alloc | apply pw_below_drewN | apply below_drew1) | exact HB.out)) hb); clear HB; have HB := n0_; clear n0_; (try clear hb); (try clear hb2); (try clear hk); (try clear hi)) | ((with_reducible refine gate_callee (f := 30) rfl ?_); refine goesL_ (some 8) rfl rfl Tryd.func30 (by kernel_rfl) rfl #[.string a1] rfl (by (try simp only [List.map_toArray, List.map_cons, List.map_nil]); first | done | rfl | (simp only [List.length_drop, List.length_take]; rfl)) ?_; (with_reducible refine (impl_Fold.calls a1 t275 _ A4.out).mono ?_); rintro e w6 ⟨rfl, hb⟩; refine ⟨_, rfl, ?_⟩; have n0_ := Aside0.mk (below_step (by repeat (first | (with_reducible first | exact HB.out | apply below_alloc | apply pw_below_drewN | apply below_drew1) | exact HB.out)) hb); clear HB; have HB := n0_; clear n0_; (try clear hb); (try clear hb2); (try clear hk); (try clear hi)))
 go_ret
 exact ⟨by first | rfl | (simp [errW_none, errW_some] <;> rfl) | (simp [*, errW_none, errW_some] <;> rfl), by repeat (first | (with_reducible first | exact HB.out | apply below_alloc | apply pw_below_drewN | apply below_drew1) | exact HB.out)⟩

set_option maxHeartbeats 8000000 in
set_option maxRecDepth 100000 in
theorem elements_add (k : Nat) (el t : ByteArray) (B : Nat) (v : Value) (xs : List ByteArray) (w w0 : World) (base : Nat) (ht : impl_Trim.f k el = some t)
  (hbox : w.heap[B]? = some (.cells #[v] 43 (0, 0))) (hR : Kd.R Kd.string 9 w base (fun k_ => k_ ≠ B) v xs) (hbel : Below base w0 w) (hbase : base ≤ B) (hlen : xs.length < 8796093022208) :
  Calls Tryd.prog 63 #[.string el, .pointer (some ⟨B, 0, none⟩)] w fun e w' => ∃ v', e = .returned (.tuple #[]) ∧ w'.heap[B]? = some (.cells #[v'] 43 (0, 0)) ∧
   Kd.R Kd.string 9 w' base (fun k_ => k_ ≠ B) v' (addS xs t) ∧ Below base w0 w' := by
 obtain ⟨A0, c0, rfl⟩ := R_slice hR
 have hBlt := blk_lt hbox
 have A := Aside0.mk ht
 have Hbox := Aside0.mk hbox
 have HR := Aside0.mk hR
 have HB := Aside0.mk hbel
 clear ht hR hbel
 by_cases he : t.toList = ([] : List UInt8)
 ·have c1 : (t.toList == ([] : List UInt8)) = true := beq_iff_eq.mpr he
  have c2 : (t.toList != ([] : List UInt8)) = false := bne_eq_false_iff_eq.mpr he
  rw [show addS xs t = xs from if_pos he]
  clear he hbox
  go_enter Tryd.func63, Tryd.ntmps63
  go_wp2_with (go_at_call 28; refine (impl_Trim.calls k el t _ A.out).mono ?_; rintro e w' ⟨rfl, ⟨nd, rfl⟩⟩)
  first | go_end0 | ((try simp only [Exit.inBlock, Exit.then]); refine bodyPost_ret (results_none rfl _ _ _) rfl ?_)
  exact ⟨_, rfl, Hbox.out, by (with_reducible repeat (first | apply Kd.R_alloc | apply Kd.R_drewN | apply Kd.R_drew)); exact HR.out, by repeat (first | (with_reducible first | exact HB.out | apply below_alloc | apply pw_below_drewN | apply below_drew1) | exact HB.out)⟩
 ·have c1 : (t.toList == ([] : List UInt8)) = false := beq_eq_false_iff_ne.mpr he
  have c2 : (t.toList != ([] : List UInt8)) = true := bne_iff_ne.mpr he
  rw [show addS xs t = xs ++ [t] from if_neg he]
  clear he
  have hcell : w.cell? ⟨B, 0, none⟩ = some (.slice A0 xs.length c0) := by rw [cell_of_row w B 0 _ _ _ hbox]; rfl
  clear hbox
  go_enter Tryd.func63, Tryd.ntmps63
  go_wp2_with (first | (go_at_call 28; refine (impl_Trim.calls k el t _ A.out).mono ?_; rintro e w' ⟨rfl, ⟨nd, rfl⟩⟩) | ((with_reducible refine gate_builtin (b := .append) (xs := #[.tmp 7, .tmp 9]) rfl ?_); (try (refine gate_guard (by rfl) ?_; dsimp only)); at_builtin; refine Kd.R_append Kd.string (w0 := w0) base rfl (.tmp 7) (.tmp 9) 43 9 (.string ⟨#[]⟩) 16 rfl Tryd.underlying43 info9 rfl (by decide) (by omega) (.slice A0 xs.length c0) xs t [.string t] (fun k_ => k_ ≠ B) (fun _ => False) rfl rfl ?aP (fun _ hk => hk.elim) ?aF ?aO ?aB ?aS ?aL ?_; (case aP => exact rfl); (case aF => intro k_ hk e_; subst e_; simp at hk; omega); (case aO => exact (by (with_reducible repeat (first | apply Kd.R_alloc | apply Kd.R_drewN | apply Kd.R_drew)); exact HR.out)); (case aB => exact (by repeat (first | (with_reducible first | exact HB.out | apply below_alloc | apply pw_below_drewN | apply below_drew1) | exact HB.out))); (case aS => simp; omega); (case aL => omega); intro v1 w1 ho hb hg hat; obtain ⟨⟨A1_, c1_, rfl⟩, hb1, hcell1, hfree1⟩ := box_after Hbox.out HR.out nd hg ho; have Hb1 := Aside0.mk hb1; have Ho := Aside0.mk ho; have Hb := Aside0.mk hb; clear hb1 ho hb hg hat))
  first | go_end0 | ((try simp only [Exit.inBlock, Exit.then]); refine bodyPost_ret (results_none rfl _ _ _) rfl ?_)
  have Ho2 := Ho.out
  rw [List.length_append, List.length_singleton] at Ho2
  exact ⟨_, rfl, heap_setCell_at Hb1.out, Kd.R_far (p := ⟨B, 0, none⟩) Ho2 (fun _ hk => hk) _, Hb.out.setCell hbase _⟩


def impl_Elements.l0 : Nat → ByteArray → List ByteArray → Int → Bool → Int → Option (List ByteArray)
 | 0, _, _, _, _, _ => none
 | k + 1, x0, out, x5, x6, x7 =>
  if x7 < (x0.size : Int) then (if 0 ≤ x7 then (
   if bt x0 x7 = 34 then impl_Elements.l0 k x0 out x5 (!x6) (wrap64 (x7 + 1))
   else if x6 = true ∧ bt x0 x7 = 92 then impl_Elements.l0 k x0 out x5 x6 (wrap64 (wrap64 (x7 + 1) + 1))
   else if x6 = false ∧ bt x0 x7 = 44 then (if 0 ≤ x5 then (if x5 ≤ x7 then (if out.length < 8796093022208 then (impl_Trim.f k (x0.extract (x5 : Int).toNat (x7 : Int).toNat)).bind fun t => impl_Elements.l0 k x0 (addS out t) (wrap64 (x7 + 1)) x6 (wrap64 (x7 + 1)) else none) else none) else none)
   else impl_Elements.l0 k x0 out x5 x6 (wrap64 (x7 + 1))) else none)
  else (if 0 ≤ x5 then (if x5 ≤ (x0.size : Int) then (if out.length < 8796093022208 then (impl_Trim.f k (x0.extract (x5 : Int).toNat x0.size)).bind fun t => some (addS out t) else none) else none) else none)
def impl_Elements.f (k : Nat) (a0 : ByteArray) : Option (List ByteArray) := if (a0.size : Int) > 4000 then some [] else impl_Elements.l0 k a0 [] 0 false 0
theorem impl_Elements.mono_l : ∀ k, (∀ y0 y1 y2 y3 y4, LeO (impl_Elements.l0 k y0 y1 y2 y3 y4) (impl_Elements.l0 (k + 1) y0 y1 y2 y3 y4))
 | 0 => fun _ _ _ _ _ r h => by simp [impl_Elements.l0] at h
 | k + 1 => by
  have ih0 := impl_Elements.mono_l k
  intro y0 y1 y2 y3 y4
  unfold impl_Elements.l0
  repeat' first
   | (with_reducible exact ih0 _ _ _ _ _)
   | (with_reducible exact impl_Trim.mono _ _)
   | (with_reducible exact LeO.refl _)
   | (with_reducible exact LeO.none _)
   | (with_reducible refine LeO.ite ?_ ?_)
   | (with_reducible refine LeO.bind ?_ (fun _ => ?_))
theorem impl_Elements.mono : ∀ a0 k, LeO (impl_Elements.f k a0) (impl_Elements.f (k + 1) a0) := by
 intro a0 k
 unfold impl_Elements.f
 exact LeO.ite (LeO.refl _) (impl_Elements.mono_l k _ _ _ _ _)
set_option maxHeartbeats 8000000 in
set_option maxRecDepth 100000 in
theorem impl_Elements.calls (k : Nat) (a0 : ByteArray) (r : List ByteArray) (w : World) (h : impl_Elements.f k a0 = some r) :
  Calls Tryd.prog 50 #[.string a0] w fun e w' => ∃ v0_ : Value, e = .returned (v0_) ∧ Kd.R Kd.string 9 w' w.heap.size (fun _ => True) v0_ r ∧ Below w.heap.size w w' := by
 have H : (if (a0.size : Int) > 4000 then some [] else impl_Elements.l0 k a0 [] 0 false 0) = some r := h
 clear h
 by_cases c2 : (a0.size : Int) > 4000
 ·rw [if_pos c2] at H
  have c2b0 : decide (4000 < (a0.size : Int)) = true := decide_eq_true c2
  have c2b1 : decide (4000 < a0.size) = true := decide_eq_true (by omega)
  clear c2
  obtain rfl := Option.some.inj H
  go_enter Tryd.func50, Tryd.ntmps50
  go_wp2
  go_ret
  exact ⟨_, rfl, Kd.R_nil _ _ _ _ _, Below.refl _ _⟩
 ·rw [if_neg c2] at H
  have c2b0 : decide (4000 < (a0.size : Int)) = false := decide_eq_false c2
  have c2b1 : decide (4000 < a0.size) = false := decide_eq_false (by omega)
  have hsz : a0.size ≤ 4000 := by omega
  clear c2
  have H' := Aside0.mk H
  clear H
  go_enter Tryd.func50, Tryd.ntmps50
  go_wp2
  go_loopg [5, 6, 7] k (fun kq v5 v6 v7 w' => ∃ (out : List ByteArray) (x5 : Int) (x6 : Bool) (x7 : Int) (vb : Value), v5 = .int .i64 x5 ∧ v6 = .bool x6 ∧ v7 = .int .i64 x7 ∧ Aside0 (impl_Elements.l0 kq a0 out x5 x6 x7 = some r) ∧ Aside0 (kq ≤ k) ∧ Aside0 (w'.heap[w.heap.size]? = some (.cells #[vb] 43 (0, 0))) ∧ Aside0 (Kd.R Kd.string 9 w' w.heap.size (fun k_ => k_ ≠ w.heap.size) vb out) ∧ Aside0 (Below w.heap.size w w'))
  case atStart => exact ⟨[], 0, false, 0, _, rfl, rfl, rfl, H', ⟨Nat.le_refl _⟩, ⟨blk_new w _⟩, ⟨Kd.R_nil _ _ _ _ _⟩, ⟨(Below.refl _ _).alloc (Nat.le_refl _) _⟩⟩
  case round =>
   clear H' c2b0 c2b1
   obtain ⟨out, x5, x6, x7, vb, rfl, rfl, rfl, HA, HK1, Hbox, HR, HB⟩ := hrel
   cases gk with
   | zero => exact absurd HA.out (by simp [impl_Elements.l0])
   | succ k1 =>
    have H := HA.out
    clear HA
    simp only [impl_Elements.l0] at H
    by_cases c3 : x7 < (a0.size : Int)
    ·rw [if_pos c3] at H
     have c3b0 : decide (x7 < (a0.size : Int)) = true := decide_eq_true c3
     by_cases c4 : 0 ≤ x7
     case neg => rw [if_neg c4] at H; cases H
     rw [if_pos c4] at H
     have p5 := eq_true c4
     have q5 := eq_true c3
     have hx5 := bt_at a0 x7
     have c3' : x7 ≤ (a0.size : Int) := by omega
     clear c3
     by_cases d1 : bt a0 x7 = 34
     ·rw [if_pos d1] at H
      have d1b0 : (bt a0 x7 == 34) = true := beq_iff_eq.mpr d1
      have H' := Aside0.mk H
      clear H d1 c4 c3'
      go_wp2
      go_roundg k1
      case measure => have := HK1.out; omega
      case rel => exact ⟨out, x5, !x6, _, vb, rfl, rfl, rfl, H', ⟨by have := HK1.out; omega⟩, Hbox, HR, HB⟩
     ·rw [if_neg d1] at H
      have d1b0 : (bt a0 x7 == 34) = false := beq_eq_false_iff_ne.mpr d1
      clear d1
      cases x6 with
      | true =>
       by_cases d2 : bt a0 x7 = 92
       ·rw [if_pos ⟨rfl, d2⟩] at H
        have d2b0 : (bt a0 x7 == 92) = true := beq_iff_eq.mpr d2
        have H' := Aside0.mk H
        clear H d2 c4 c3'
        go_wp2
        go_roundg k1
        case measure => have := HK1.out; omega
        case rel => exact ⟨out, x5, true, _, vb, rfl, rfl, rfl, H', ⟨by have := HK1.out; omega⟩, Hbox, HR, HB⟩
       ·rw [if_neg (fun z => d2 z.2), if_neg (fun z => by cases z.1)] at H
        have d2b0 : (bt a0 x7 == 92) = false := beq_eq_false_iff_ne.mpr d2
        have H' := Aside0.mk H
        clear H d2 c4 c3'
        go_wp2
        go_roundg k1
        case measure => have := HK1.out; omega
        case rel => exact ⟨out, x5, true, _, vb, rfl, rfl, rfl, H', ⟨by have := HK1.out; omega⟩, Hbox, HR, HB⟩
      | false =>
       rw [if_neg (fun z => by cases z.1)] at H
       by_cases d3 : bt a0 x7 = 44
       ·rw [if_pos ⟨rfl, d3⟩] at H
        have d3b0 : (bt a0 x7 == 44) = true := beq_iff_eq.mpr d3
        by_cases e1 : 0 ≤ x5
        case neg => rw [if_neg e1] at H; cases H
        rw [if_pos e1] at H
        by_cases e2 : x5 ≤ x7
        case neg => rw [if_neg e2] at H; cases H
        rw [if_pos e2] at H
        by_cases e3 : out.length < 8796093022208
        case neg => rw [if_neg e3] at H; cases H
        rw [if_pos e3] at H
        obtain ⟨t, A0, H⟩ := Option.bind_eq_some_iff.mp H
        have A := Aside0.mk A0
        clear A0
        have H' := Aside0.mk H
        have HL := Aside0.mk e3
        have s1 := eq_true e1
        have s1b : decide (0 ≤ x5) = true := decide_eq_true e1
        have s2 := eq_true e2
        have s2b : decide (x5 ≤ x7) = true := decide_eq_true e2
        have s3 := eq_true c3'
        have s3b : decide (x7 ≤ (a0.size : Int)) = true := decide_eq_true c3'
        clear H d3 c4 c3' e1 e2 e3
        go_wp2_with (go_at_call 63; refine (elements_add k1 (a0.extract (x5 : Int).toNat (x7 : Int).toNat) t w.heap.size vb out _ w w.heap.size A.out Hbox.out HR.out HB.out (Nat.le_refl _) HL.out).mono ?_; rintro e w' ⟨v', rfl, hb', hr', hl'⟩; have Hb2 := Aside0.mk hb'; have Hr2 := Aside0.mk hr'; have Hl2 := Aside0.mk hl'; clear hb' hr' hl')
        go_roundg k1
        case measure => have := HK1.out; omega
        case rel => exact ⟨addS out t, _, false, _, v', rfl, rfl, rfl, H', ⟨by have := HK1.out; omega⟩, Hb2, Hr2, Hl2⟩
       ·rw [if_neg (fun z => d3 z.2)] at H
        have d3b0 : (bt a0 x7 == 44) = false := beq_eq_false_iff_ne.mpr d3
        have H' := Aside0.mk H
        clear H d3 c4 c3'
        go_wp2
        go_roundg k1
        case measure => have := HK1.out; omega
        case rel => exact ⟨out, x5, false, _, vb, rfl, rfl, rfl, H', ⟨by have := HK1.out; omega⟩, Hbox, HR, HB⟩
    ·rw [if_neg c3] at H
     have c3b0 : decide (x7 < (a0.size : Int)) = false := decide_eq_false c3
     clear c3
     by_cases e1 : 0 ≤ x5
     case neg => rw [if_neg e1] at H; cases H
     rw [if_pos e1] at H
     by_cases e2 : x5 ≤ (a0.size : Int)
     case neg => rw [if_neg e2] at H; cases H
     rw [if_pos e2] at H
     by_cases e3 : out.length < 8796093022208
     case neg => rw [if_neg e3] at H; cases H
     rw [if_pos e3] at H
     obtain ⟨t, A0, H⟩ := Option.bind_eq_some_iff.mp H
     have A := Aside0.mk A0
     clear A0
     obtain rfl := Option.some.inj H
     have HL := Aside0.mk e3
     have s1 := eq_true e1
     have s1b : decide (0 ≤ x5) = true := decide_eq_true e1
     have s2 := eq_true e2
     have s2b : decide (x5 ≤ (a0.size : Int)) = true := decide_eq_true e2
     clear H e1 e2 e3
     go_wp2_with (fail)
     refine (elements_add k1 (a0.extract (x5 : Int).toNat a0.size) t w.heap.size vb out _ w w.heap.size A.out Hbox.out HR.out HB.out (Nat.le_refl _) HL.out).mono ?_
     rintro e w' ⟨v', rfl, hb', hr', hl'⟩
     obtain ⟨A1, c1, rfl⟩ := R_slice hr'
     have hcell : w'.cell? ⟨w.heap.size, 0, none⟩ = some (.slice A1 (addS out t).length c1) := by rw [cell_of_row w' w.heap.size 0 _ _ _ hb']; rfl
     have Hb2 := Aside0.mk hb'
     have Hr2 := Aside0.mk hr'
     have Hl2 := Aside0.mk hl'
     clear hb' hr' hl'
     go_wp2
     go_ret
     exact ⟨_, rfl, Kd.R_mono Hr2.out (fun _ _ => trivial), Hl2.out⟩

end Go.Proofs.YtahgiblifkchaaaDoor.P
