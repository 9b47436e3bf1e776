-- Written by a program of ours (myprint.py, by way of the kit's print) out of Lean's print of the translation.
import Derived.Sort.OwnSorted
import Derived.Test.YtahgiblifkchaaaShelf
import Derived.Test.YtahgiblifkchaaaPx0
import Derived.Test.YtahgiblifkchaaaPximpl01a
import Derived.Test.YtahgiblifkchaaaPximpl01b
import Derived.Test.YtahgiblifkchaaaPximpl01c
import Derived.Test.YtahgiblifkchaaaPximpl01d
import Derived.Test.YtahgiblifkchaaaPximpl05b
namespace Go.Proofs.Ytahgiblifkchaaa.P
open Go.RowKit Go.Proofs.YtahgiblifkchaaaW.PrintWords Go.Proofs.YtahgiblifkchaaaW.PrintLast Go.Proofs.YtahgiblifkchaaaW.PrintMore
attribute [local go_sem] max2_int min2_int max_two min_two max_three min_three max_four min_four   -- for this text's walks alone
set_option linter.unusedVariables false
set_option linter.unusedSimpArgs false

/-! ### impl_Words: function 61 -/
def impl_Words.f (k : Nat) (l0 : List (S71)) (a1 : ByteArray) : Option (List ByteArray) := (impl_Joined.f k l0 a1).bind fun t279 => ((impl_Elements.f k t279).bind fun t280 => (some t280))
theorem impl_Words.mono : ∀ a0 a1 k, LeO (impl_Words.f k a0 a1) (impl_Words.f (k + 1) a0 a1) := by
  intro a0 a1 k
  unfold impl_Words.f
  repeat' first
      | (with_reducible exact impl_Elements.mono _ _)
      | (with_reducible exact impl_Joined.mono _ _ _)
      | (with_reducible exact LeO.refl _)
      | (with_reducible exact LeO.none _)
      | (with_reducible refine LeO.ite ?_ ?_)
      | (with_reducible refine LeO.bind ?_ (fun _ => ?_))
      | exact impl_Elements.mono _ _
      | exact impl_Joined.mono _ _ _
      | exact LeO.none _
      | refine LeO.ite ?_ ?_
      | refine LeO.bind ?_ (fun _ => ?_)
set_option maxHeartbeats 8000000 in
set_option maxRecDepth 100000 in
theorem impl_Words.calls (k : Nat) (A0 : Option Addr) (c0 : Nat) (l0 : List (S71)) (a1 : ByteArray) (r : List ByteArray) (w : World) (hr0 : Kd.C k71 w A0 l0.length l0) (hc0 : l0.length ≤ c0) (h : impl_Words.f k l0 a1 = some r) :
    Calls Try.prog 61 #[.slice A0 l0.length c0, .string a1] w fun e w' => ∃ v0_ : Value, e = .returned (v0_) ∧ Kd.R Kd.string 9 w' w.heap.size (fun _ => True) v0_ r ∧ Below w.heap.size w w' := by
  have HR0 := Aside0.mk hr0
  have HC0 := Aside0.mk hc0
  clear hr0 hc0
  have HB := Aside0.mk (Below.refl w.heap.size w)
  have H : ((impl_Joined.f k l0 a1).bind fun t279 => ((impl_Elements.f k t279).bind fun t280 => (some t280))) = some r := h
  clear h
  replace H := Option.bind_eq_some_iff.mp H
  obtain ⟨t279, A30, H⟩ := H
  replace H : ((impl_Elements.f k t279).bind fun t280 => (some t280)) = some r := H
  have A3 := Aside0.mk A30
  clear A30
  replace H := Option.bind_eq_some_iff.mp H
  obtain ⟨t280, A40, H⟩ := H
  replace H : (some t280) = some r := H
  have A4 := Aside0.mk A40
  clear A40
  obtain rfl := Option.some.inj H
  go_enter Try.func61, Try.ntmps61
  go_wp2_with (first | ((with_reducible refine gate_callee (f := 104) rfl ?_); refine goesL_ (some 7) rfl rfl Try.func104 (by kernel_rfl) rfl #[.slice A0 l0.length c0, .string a1] rfl (by (try simp only [List.map_toArray, List.map_cons, List.map_nil]); first | done | rfl | (simp only [List.length_drop, List.length_take]; rfl)) ?_; (with_reducible refine (impl_Joined.calls k _ _ l0 a1 t279 _ ?side1 ?side2 A3.out).mono ?_); (case side1 => repeat (first | exact HR0.out | (with_reducible refine Kd.C_alloc ?_ _) | (with_reducible refine Kd.C_drewN ?_ _) | (with_reducible refine Kd.C_drew ?_))); (case side2 => exact HC0.out); rintro e w5 ⟨rfl, hb⟩; refine ⟨_, rfl, ?_⟩; have n0_ := Aside0.mk (below_step (by repeat (first | (with_reducible first | exact HB.out | apply below_alloc | apply pw_below_drewN | apply below_drew1) | exact HB.out)) hb); clear HB; have HB := n0_; clear n0_; (try clear hb); (try clear hb2); (try clear hk); (try clear hi)) | ((with_reducible refine gate_callee (f := 33) rfl ?_); refine goesL_ (some 8) rfl rfl Try.func33 (by kernel_rfl) rfl #[.string t279] rfl (by (try simp only [List.map_toArray, List.map_cons, List.map_nil]); first | done | rfl | (simp only [List.length_drop, List.length_take]; rfl)) ?_; (with_reducible refine (impl_Elements.calls k t279 t280 _ A4.out).mono ?_); rintro e w6 ⟨v281, rfl, ho0, hb⟩; refine ⟨_, rfl, ?_⟩; have n0_ := Aside0.mk (Kd.R_lower ho0 (below_size (by repeat (first | (with_reducible first | exact HB.out | apply below_alloc | apply pw_below_drewN | apply below_drew1) | exact HB.out)))); have n1_ := Aside0.mk (below_step (by repeat (first | (with_reducible first | exact HB.out | apply below_alloc | apply pw_below_drewN | apply below_drew1) | exact HB.out)) hb); clear HB; have HO282 := n0_; have HB := n1_; clear n0_ n1_; (try clear hb); (try clear hb2); (try clear hk); (try clear hi); (try clear ho0)))
  go_ret
  exact ⟨_, by first | rfl | (simp [errW_none, errW_some] <;> rfl) | (simp [*, errW_none, errW_some] <;> rfl), by (with_reducible repeat (first | apply Kd.R_alloc | apply Kd.R_drewN | apply Kd.R_drew)); exact HO282.out, by repeat (first | (with_reducible first | exact HB.out | apply below_alloc | apply pw_below_drewN | apply below_drew1) | exact HB.out)⟩

/-! ### impl_HopNames: function 66 (by hand) -/
-- IMPORT Shelf Derived.Sort.OwnSorted
/-- The elements, ascending. -/
def sortL (xs : List ByteArray) : List (List UInt8) := (xs.map fun x => x.data.toList).mergeSort fun x y => decide (x ≤ y)
def bytesL (l : List (List UInt8)) : List ByteArray := l.map fun x => ⟨x.toArray⟩
theorem encs_bytes (l : List (List UInt8)) : encs Value.string (bytesL l) = l.map Go.Proofs.encStr := by simp [encs, bytesL, Function.comp_def]
theorem encs_lists (xs : List ByteArray) : (xs.map fun x => x.data.toList).map Go.Proofs.encStr = encs Value.string xs := by simp [encs, Function.comp_def]
theorem bytesL_length (l : List (List UInt8)) : (bytesL l).length = l.length := by simp [bytesL]
theorem sortL_length (xs : List ByteArray) : (sortL xs).length = xs.length := by simp [sortL]
theorem sort_R {w : World} {base : Nat} {v : Value} {xs : List ByteArray} {ok : Nat → Prop} (hR : Kd.R Kd.string 9 w base ok v xs) (h1 : xs.length < 4611686018427387904) :
    Calls Try.prog 118 #[v] w fun e w' => e = .returned (.tuple #[]) ∧ Kd.R Kd.string 9 w' base ok v (bytesL (sortL xs)) ∧ w.grownBy w' v.ownBlock := by
  have ho := Kd.own_of_R hR
  have hok := hR.1
  rcases ho.2 with ⟨rfl, h0⟩ | ⟨g, cap, cur, rfl, hg, hh, hc, hm, hs, ht⟩
  · obtain rfl : xs = [] := List.length_eq_zero_iff.mp h0
    refine (Try.slices_Sort_string_none none 0 w).mono ?_
    rintro e w' ⟨rfl, rfl⟩
    have e0 : bytesL (sortL []) = [] := by simp [sortL, bytesL]
    exact ⟨rfl, by rw [e0]; exact hR, ⟨rfl, rfl, rfl, Nat.le_refl _, fun _ _ _ => rfl⟩⟩
  · have hl : (xs.map fun x => x.data.toList).length = xs.length := by simp
    have hH : Go.Sort.Holds Go.Proofs.encStr w g 0 (xs.map fun x => x.data.toList).toArray := Go.holds_of_block hh (by rw [hl, encs_lists]; simpa using ht)
    have hc' := Try.slices_Sort_string g 0 cap (xs.map fun x => x.data.toList) w hH (blk_lt hh) (by omega)
    rw [hl] at hc'
    refine hc'.mono ?_
    rintro e w' ⟨rfl, n, os, rfl⟩
    have hown := Go.ownsRow_sorted (n := n) (os := os) (ss := xs.map fun x => x.data.toList) (ts := sortL xs) (by simp [sortL]) hg hh (by omega) hm hs
    rw [hl] at hown
    refine ⟨rfl, Kd.R_of_own ?_ hok, Go.grownBy_sorted _⟩
    rw [encs_bytes, bytesL_length, sortL_length]
    exact hown
theorem compact_R {w : World} {base : Nat} {v : Value} {l : List (List UInt8)} {ok : Nat → Prop} (hR : Kd.R Kd.string 9 w base ok v (bytesL l)) (h1 : l.length ≤ 9223372036854775807) :
    Calls Try.prog 119 #[v] w fun e w' => ∃ v' : Value, e = .returned v' ∧ Kd.R Kd.string 9 w' base ok v' (bytesL (Go.Lib.compact l)) ∧ w.grownBy w' v.ownBlock := by
  have ho := Kd.own_of_R hR
  have hok := hR.1
  rw [bytesL_length] at ho
  rcases ho.2 with ⟨rfl, h0⟩ | ⟨g, cap, cur, rfl, hg, hh, hc, hm, hs, ht⟩
  · obtain rfl : l = [] := List.length_eq_zero_iff.mp h0
    refine (Try.slices_Compact_string_empty none 0 w).mono ?_
    rintro e w' ⟨rfl, rfl⟩
    exact ⟨_, rfl, hR, ⟨rfl, rfl, rfl, Nat.le_refl _, fun _ _ _ => rfl⟩⟩
  · have hH : Go.Sort.Holds Go.Proofs.encStr w g 0 l.toArray := Go.holds_of_block hh (by rw [← encs_bytes]; simpa using ht)
    refine (Try.slices_Compact_string g 0 cap l w hH h1 hc).mono ?_
    rintro e w' ⟨rfl, q, rfl⟩
    have hlen : (Go.Lib.compact l).length ≤ l.length := by
      unfold Go.Lib.compact Go.Lib.compactUpTo
      rw [List.length_map]
      exact Nat.le_trans (List.length_filter_le _ _) (by simp)
    generalize hd : Go.Lib.compact l ++ List.replicate (l.length - (Go.Lib.compact l).length) ([] : List UInt8) = d
    have hdl : d.length = l.length := by rw [← hd]; simp; omega
    have hg0 : Go.Sort.putRow Go.Proofs.encStr (Go.Sort.ahead w q) g 0 d.toArray = Go.Sort.grow (Go.Sort.putRow Go.Proofs.encStr (Go.Sort.ahead w q) g 0 d.toArray) #[] := (Go.Sort.grow_empty _).symm
    rw [hg0]
    refine ⟨_, rfl, Kd.R_of_own ?_ hok, Go.grownBy_sorted _⟩
    rw [encs_bytes, bytesL_length]
    refine ⟨by simp, .inr ⟨g, cap, _, rfl, hg, Go.heap_sorted _ hh, by omega, hm, by simp [Go.Sort.putCells, hs], ?_⟩⟩
    have e1 := Go.take_putCells cur d (by omega)
    have e2 : ((Go.Sort.putCells Go.Proofs.encStr 0 d.toArray cur).toList.take d.length).take (Go.Lib.compact l).length = (Go.Lib.compact l).map Go.Proofs.encStr := by
      rw [e1, ← hd, List.map_append, List.take_append_of_le_length (by simp), List.take_of_length_le (by simp)]
    rw [List.take_take] at e2
    rw [Nat.mul_one]
    rw [show min (Go.Lib.compact l).length d.length = (Go.Lib.compact l).length by omega] at e2
    exact e2

def hop0 : List ByteArray := [(⟨#[99, 111, 110, 110, 101, 99, 116, 105, 111, 110]⟩ : ByteArray), (⟨#[107, 101, 101, 112, 45, 97, 108, 105, 118, 101]⟩ : ByteArray), (⟨#[112, 114, 111, 120, 121, 45, 99, 111, 110, 110, 101, 99, 116, 105, 111, 110]⟩ : ByteArray), (⟨#[116, 101]⟩ : ByteArray), (⟨#[116, 114, 97, 105, 108, 101, 114]⟩ : ByteArray), (⟨#[116, 114, 97, 110, 115, 102, 101, 114, 45, 101, 110, 99, 111, 100, 105, 110, 103]⟩ : ByteArray), (⟨#[117, 112, 103, 114, 97, 100, 101]⟩ : ByteArray)]
def hopL : Nat → List ByteArray → List ByteArray → Int → Option (List ByteArray)
  | 0, _, _, _ => none
  | k + 1, ws, out, i => if i < (ws.length : Int) then (if 0 ≤ i then (impl_Token.f k (rdOf ByteArray.empty ws i)).bind fun b => (if b = true then (impl_Fold.f (rdOf ByteArray.empty ws i)).bind fun t => (if out.length < 8796093022208 then hopL k ws (out ++ [t]) (wrap64 (i + 1)) else none) else hopL k ws out (wrap64 (i + 1))) else none) else some out
def impl_HopNames.f (k : Nat) (l0 : List S71) : Option (List ByteArray) := (impl_FieldsOk.f k l0).bind fun ok => if ok = true then (impl_Words.f k l0 (⟨#[99, 111, 110, 110, 101, 99, 116, 105, 111, 110]⟩ : ByteArray)).bind fun ws => (hopL k ws hop0 0).bind fun out => (if out.length < 4611686018427387904 then some (bytesL (Go.Lib.compact (sortL out))) else none) else some []
theorem hopL_mono : ∀ k, (∀ l o i, LeO (hopL k l o i) (hopL (k + 1) l o i))
  | 0 => fun _ _ _ r h => by simp [hopL] at h
  | k + 1 => fun l o i => by
    have ih0 := hopL_mono k
    unfold hopL
    exact LeO.ite (LeO.ite (LeO.bind (impl_Token.mono _ _) fun b => LeO.ite (LeO.bind (LeO.refl _) fun t => LeO.ite (ih0 _ _ _) (LeO.refl _)) (ih0 _ _ _)) (LeO.refl _)) (LeO.refl _)
theorem impl_HopNames.mono : ∀ a0 k, LeO (impl_HopNames.f k a0) (impl_HopNames.f (k + 1) a0) := by
  intro a0 k
  unfold impl_HopNames.f
  exact LeO.bind (impl_FieldsOk.mono _ _) fun ok => LeO.ite (LeO.bind (impl_Words.mono _ _ _) fun ws => LeO.bind (hopL_mono _ _ _ _) fun _ => LeO.refl _) (LeO.refl _)
set_option maxHeartbeats 8000000 in
set_option maxRecDepth 100000 in
theorem impl_HopNames.calls (k : Nat) (A0 : Option Addr) (c0 : Nat) (l0 : List S71) (r : List ByteArray) (w : World) (hr0 : Kd.C k71 w A0 l0.length l0) (hc0 : l0.length ≤ c0) (h : impl_HopNames.f k l0 = some r) :
    Calls Try.prog 66 #[.slice A0 l0.length c0] w fun e w' => ∃ v0_ : Value, e = .returned (v0_) ∧ Kd.R Kd.string 9 w' w.heap.size (fun _ => True) v0_ r ∧ Below w.heap.size w w' := by
  have hu := Try.underlying71
  have HR0 := Aside0.mk hr0
  have HC0 := Aside0.mk hc0
  clear hr0 hc0
  have HB := Aside0.mk (Below.refl w.heap.size w)
  obtain ⟨ok, A30, H⟩ := Option.bind_eq_some_iff.mp h
  have A3 := Aside0.mk A30
  clear A30 h
  cases ok with
  | true =>
    rw [if_pos rfl] at H
    obtain ⟨ws, A50, H⟩ := Option.bind_eq_some_iff.mp H
    obtain ⟨fin, H0, H⟩ := Option.bind_eq_some_iff.mp H
    by_cases hfin : fin.length < 4611686018427387904
    case neg => rw [if_neg hfin] at H; cases H
    rw [if_pos hfin] at H
    obtain rfl := Option.some.inj H
    have A5 := Aside0.mk A50
    have H' := Aside0.mk H0
    have HF := Aside0.mk hfin
    clear A50 H0 H hfin
    go_enter Try.func66, Try.ntmps66
    go_wp2_with ((with_reducible refine gate_callee (f := 97) rfl ?_); refine goesL_ (some 7) rfl rfl Try.func97 (by kernel_rfl) rfl #[.slice A0 l0.length c0] rfl (by (try simp only [List.map_toArray, List.map_cons, List.map_nil]); first | done | rfl) ?_; (with_reducible refine (impl_FieldsOk.calls k _ _ l0 true _ ?side1 ?side2 A3.out).mono ?_); (case side1 => exact HR0.out); (case side2 => exact HC0.out); rintro e w5 ⟨rfl, hb⟩; refine ⟨_, rfl, ?_⟩; have n0_ := Aside0.mk (below_step (by repeat (first | (with_reducible first | exact HB.out | apply below_alloc | apply pw_below_drewN | apply below_drew1) | exact HB.out)) hb); have n1_ := Aside0.mk (Kd.C_below HR0.out hb); clear HB HR0 hb; have HB := n0_; have HR0 := n1_; clear n0_ n1_)
    have hw5 : w.heap.size ≤ w5.heap.size := HB.out.size
    generalize hW6 : w5.alloc _ = w6
    have n0_ : Kd.R Kd.string 9 w6 w.heap.size (fun _ => True) (.slice (some ⟨w5.heap.size, 0, none⟩) hop0.length 7) hop0 := by
      subst hW6
      exact Kd.R_of_own ⟨rfl, .inr ⟨w5.heap.size, 7, _, rfl, hw5, blk_new w5 _, by decide, by decide, rfl, rfl⟩⟩ (fun _ _ => trivial)
    have n1_ : Below w.heap.size w w6 := by subst hW6; exact HB.out.alloc hw5 _
    have n2_ : Kd.C k71 w6 A0 l0.length l0 := by subst hW6; exact Kd.C_alloc HR0.out _
    have HO3 := Aside0.mk n0_
    clear HB HR0 hW6 hw5 n0_
    refine (impl_Words.calls k _ _ l0 (⟨#[99, 111, 110, 110, 101, 99, 116, 105, 111, 110]⟩ : ByteArray) ws _ n2_ HC0.out A5.out).mono ?_
    rintro e w7 ⟨v11, rfl, hr11, hb⟩
    dsimp only
    have n3_ := Aside0.mk (Kd.R_elder' HO3.out (fun k_ hk_ => Kd.R_base hr11 k_ hk_) hb)
    have n4_ := Aside0.mk (Kd.R_tight rfl (Kd.R_lower hr11 n1_.size))
    have HB := Aside0.mk (below_step n1_ hb)
    clear HO3 hr11 hb n1_ n2_
    have HO3 := n3_
    have HO11 := n4_
    clear n3_ n4_
    obtain ⟨A11, c11, rfl⟩ := R_slice HO11.out
    go_wp2
    go_loopg [3, 13] k (fun kq v3 v13 w' => ∃ (x3 : List ByteArray) (x13 : Int), v13 = .int .i64 x13 ∧ Aside0 (hopL kq ws x3 x13 = some fin) ∧ Aside0 (kq ≤ k) ∧ Aside0 (Kd.R Kd.string 9 w' w.heap.size (fun k_ => some k_ ≠ (.slice A11 ws.length c11 : Value).ownBlock) v3 x3) ∧ Aside0 (Kd.R Kd.string 9 w' w.heap.size (fun k_ => some k_ = (.slice A11 ws.length c11 : Value).ownBlock) (.slice A11 ws.length c11) ws) ∧ Aside0 (Below w.heap.size w w'))
    case atStart => exact ⟨hop0, 0, rfl, H', ⟨Nat.le_refl _⟩, ⟨Kd.R_mono HO3.out (fun _ hk => hk.2)⟩, HO11, ⟨(by repeat (first | (with_reducible first | exact HB.out | apply below_alloc | apply pw_below_drewN | apply below_drew1) | exact HB.out))⟩⟩
    case round =>
      clear H' HO3 HO11 HB
      obtain ⟨x3, x13, rfl, HA, HK1, HO3, HO11, HB⟩ := hrel
      cases gk with
      | zero => exact absurd HA.out (by simp [hopL])
      | succ k1 =>
        have H := HA.out
        clear HA
        simp only [hopL] at H
        by_cases c6 : x13 < (ws.length : Int)
        · rw [if_pos c6] at H
          have c6b0 : decide (x13 < (ws.length : Int)) = true := decide_eq_true c6
          by_cases c7 : 0 ≤ x13
          case neg => rw [if_neg c7] at H; cases H
          rw [if_pos c7] at H
          obtain ⟨b, A90, H⟩ := Option.bind_eq_some_iff.mp H
          have A9 := Aside0.mk A90
          clear A90
          have c7b0 : decide (0 ≤ x13) = true := decide_eq_true c7
          obtain ⟨ad655, e655, hx655⟩ := Kd.at_string (Kd.R_reads' HO11.out).2.2 x13 c7 c6
          cases e655
          have p655 := eq_true c7
          have q655 := eq_true c6
          clear c6 c7
          cases b with
          | true =>
            rw [if_pos rfl] at H
            obtain ⟨t, AT0, H⟩ := Option.bind_eq_some_iff.mp H
            by_cases c8 : x3.length < 8796093022208
            case neg => rw [if_neg c8] at H; cases H
            rw [if_pos c8] at H
            have AT := Aside0.mk AT0
            have HL := Aside0.mk c8
            have H' := Aside0.mk H
            clear H c8 AT0
            go_wp2_with (first | ((with_reducible refine gate_callee (f := 117) rfl ?_); refine goesL_ (some 18) rfl rfl Try.func117 (by kernel_rfl) rfl #[.string (rdOf ByteArray.empty ws x13)] rfl (by (try simp only [List.map_toArray, List.map_cons, List.map_nil]); first | done | rfl) ?_; (with_reducible refine (impl_Token.calls _ (rdOf ByteArray.empty ws x13) true _ A9.out).mono ?_); rintro e w' ⟨rfl, ⟨nd, rfl⟩⟩; refine ⟨_, rfl, ?_⟩) | ((with_reducible refine gate_callee (f := 112) rfl ?_); refine goesL_ (some 21) rfl rfl Try.func112 (by kernel_rfl) rfl #[.string (rdOf ByteArray.empty ws x13)] rfl (by (try simp only [List.map_toArray, List.map_cons, List.map_nil]); first | done | rfl) ?_; (with_reducible refine (impl_Fold.calls (rdOf ByteArray.empty ws x13) t _ AT.out).mono ?_); rintro e w20 ⟨rfl, hb⟩; refine ⟨_, rfl, ?_⟩; have n0_ := Aside0.mk (Kd.R_below (by (with_reducible repeat (first | apply Kd.R_alloc | apply Kd.R_drewN | apply Kd.R_drew)); exact HO3.out) hb); have n1_ := Aside0.mk (Kd.R_below (by (with_reducible repeat (first | apply Kd.R_alloc | apply Kd.R_drewN | apply Kd.R_drew)); exact HO11.out) hb); have n2_ := Aside0.mk (below_step (by repeat (first | (with_reducible first | exact HB.out | apply below_alloc | apply pw_below_drewN | apply below_drew1) | exact HB.out)) hb); clear HB HO3 HO11 hb; have HO3 := n0_; have HO11 := n1_; have HB := n2_; clear n0_ n1_ n2_) | ((with_reducible refine gate_builtin (b := .append) (xs := #[.tmp 19, .tmp 22]) rfl ?_); at_builtin; refine Kd.R_append Kd.string (w0 := w) w.heap.size rfl (.tmp 19) (.tmp 22) 40 9 (.string ⟨#[]⟩) 16 rfl Try.underlying40 info9 rfl (by decide) (by omega) u3 x3 t [.string t] (fun k_ => some k_ ≠ (.slice (some ad655) ws.length c11 : Value).ownBlock) (fun _ => False) rfl rfl ?aP (fun _ hk => hk.elim) ?aF ?aO ?aB ?aS ?aL ?_; (case aP => exact rfl); (case aB => exact (by repeat (first | (with_reducible first | exact HB.out | apply below_alloc | apply pw_below_drewN | apply below_drew1) | exact HB.out))); (case aF => exact Kd.fresh_ok (by (with_reducible repeat (first | apply Kd.R_alloc | apply Kd.R_drewN | apply Kd.R_drew)); exact HO11.out)); (case aO => exact (by (with_reducible repeat (first | apply Kd.R_alloc | apply Kd.R_drewN | apply Kd.R_drew)); exact HO3.out)); (case aS => exact (below_size (by repeat (first | (with_reducible first | exact HB.out | apply below_alloc | apply pw_below_drewN | apply below_drew1) | exact HB.out)))); (case aL => have := HL.out; omega); intro v325 w17 ho hb hg hat; have n0_ := Aside0.mk hb; have n1_ := Aside0.mk ho; have n2_ := Aside0.mk (Kd.R_grown (by (with_reducible repeat (first | apply Kd.R_alloc | apply Kd.R_drewN | apply Kd.R_drew)); exact HO11.out) hg (fun k_ hk_ he_ => HO3.out.1 k_ he_.symm hk_)); clear HB HO3 HO11 ho hb hg hat; have HB := n0_; have HO3 := n1_; have HO11 := n2_; clear n0_ n1_ n2_))
            go_roundg k1
            case measure => have := HK1.out; omega
            case rel => exact ⟨_, (wrap64 (x13 + 1)), rfl, H', ⟨by have := HK1.out; omega⟩, HO3, HO11, HB⟩
          | false =>
            have H' := Aside0.mk (show hopL k1 ws x3 (wrap64 (x13 + 1)) = some fin by simpa using H)
            clear H
            go_wp2_with ((with_reducible refine gate_callee (f := 117) rfl ?_); refine goesL_ (some 18) rfl rfl Try.func117 (by kernel_rfl) rfl #[.string (rdOf ByteArray.empty ws x13)] rfl (by (try simp only [List.map_toArray, List.map_cons, List.map_nil]); first | done | rfl) ?_; (with_reducible refine (impl_Token.calls _ (rdOf ByteArray.empty ws x13) false _ A9.out).mono ?_); rintro e w' ⟨rfl, ⟨nd, rfl⟩⟩; refine ⟨_, rfl, ?_⟩)
            go_roundg k1
            case measure => have := HK1.out; omega
            case rel => exact ⟨x3, (wrap64 (x13 + 1)), rfl, H', ⟨by have := HK1.out; omega⟩, ⟨(by (with_reducible repeat (first | apply Kd.R_alloc | apply Kd.R_drewN | apply Kd.R_drew)); exact HO3.out)⟩, ⟨(by (with_reducible repeat (first | apply Kd.R_alloc | apply Kd.R_drewN | apply Kd.R_drew)); exact HO11.out)⟩, ⟨(by repeat (first | (with_reducible first | exact HB.out | apply below_alloc | apply pw_below_drewN | apply below_drew1) | exact HB.out))⟩⟩
        · rw [if_neg c6] at H
          have c6b0 : decide (x13 < (ws.length : Int)) = false := decide_eq_false c6
          clear c6
          obtain rfl := Option.some.inj H
          clear H
          go_wp2_with fail
          refine (sort_R HO3.out HF.out).mono ?_
          rintro e w8 ⟨rfl, hr8, hg8⟩
          dsimp only
          have hb8 := Below.grown HB.out hg8 HB.out.size (fun k_ hk_ => Kd.R_base HO3.out k_ hk_)
          clear HO3 HO11 HB hg8
          have HO3 := Aside0.mk hr8
          have HB := Aside0.mk hb8
          clear hr8 hb8
          go_wp2_with fail
          refine (compact_R HO3.out (by rw [sortL_length]; have := HF.out; omega)).mono ?_
          rintro e w9 ⟨v9, rfl, hr9, hg9⟩
          dsimp only
          have hb9 := Below.grown HB.out hg9 HB.out.size (fun k_ hk_ => Kd.R_base HO3.out k_ hk_)
          have hr9' := Kd.R_mono hr9 (fun _ _ => trivial : ∀ k_, _ → (fun _ => True) k_)
          clear HO3 HB hg9 hr9
          have HO9 := Aside0.mk hr9'
          have HB := Aside0.mk hb9
          clear hr9' hb9
          go_wp2
          go_ret
          exact ⟨_, rfl, HO9.out, HB.out⟩
  | false =>
    obtain rfl : [] = r := by simpa using H
    clear H
    go_enter Try.func66, Try.ntmps66
    go_wp2_with ((with_reducible refine gate_callee (f := 97) rfl ?_); refine goesL_ (some 7) rfl rfl Try.func97 (by kernel_rfl) rfl #[.slice A0 l0.length c0] rfl (by (try simp only [List.map_toArray, List.map_cons, List.map_nil]); first | done | rfl) ?_; (with_reducible refine (impl_FieldsOk.calls k _ _ l0 false _ ?side1 ?side2 A3.out).mono ?_); (case side1 => exact HR0.out); (case side2 => exact HC0.out); rintro e w5 ⟨rfl, hb⟩; refine ⟨_, rfl, ?_⟩; have n0_ := Aside0.mk (below_step (by repeat (first | (with_reducible first | exact HB.out | apply below_alloc | apply pw_below_drewN | apply below_drew1) | exact HB.out)) hb); have n1_ := Aside0.mk (Kd.C_below HR0.out hb); clear HB HR0 hb; have HB := n0_; have HR0 := n1_; clear n0_ n1_)
    go_ret
    exact ⟨_, rfl, Kd.R_nil _ _ _ _ _, HB.out⟩

/-! ### impl_Without: function 45 (by hand) -/
def keptL (p : ByteArray → Option Bool) : Nat → List S71 → List S71 → Int → Option (List S71)
  | 0, _, _, _ => none
  | k + 1, l, out, i => if i < (l.length : Int) then (if 0 ≤ i then (p (rd_T71 l i).f0).bind fun b => if b = true then (if out.length < 4398046511104 then keptL p k l (out ++ [rd_T71 l i]) (wrap64 (i + 1)) else none) else keptL p k l out (wrap64 (i + 1)) else none) else some out
def keptF (p : ByteArray → Option Bool) (k : Nat) (l : List S71) : Option (List S71) := (impl_FieldsOk.f k l).bind fun ok => if ok = true then keptL p k l [] 0 else some []
set_option maxHeartbeats 8000000 in
set_option maxRecDepth 100000 in
theorem kept_calls (p : ByteArray → Option Bool) (g : FuncId) (fnr : Func) (hfn : Try.prog.funcs[g]? = some fnr) (hname : (fnr.name == "runtime.NumGoroutine") = false) (hbody : fnr.body.isSome = true) (caps : Array Value) (w : World)
    (HF : ∀ (W : World) (x : ByteArray) (b : Bool), Below w.heap.size w W → p x = some b → Calls Try.prog g (#[.string x] ++ caps) W fun e w' => e = .returned (.bool b) ∧ Below W.heap.size W w')
    (k : Nat) (A0 : Option Addr) (c0 : Nat) (l0 : List S71) (r : List S71) (hr0 : Kd.C k71 w A0 l0.length l0) (hc0 : l0.length ≤ c0) (h : keptF p k l0 = some r) :
    Calls Try.prog 93 #[.slice A0 l0.length c0, .func (.func g) #[] caps] w fun e w' => ∃ v0_ : Value, e = .returned (v0_) ∧ Kd.R k71 71 w' w.heap.size (fun _ => True) v0_ r ∧ Below w.heap.size w w' := by
  have hu := Try.underlying71
  have HR0 := Aside0.mk hr0
  have HC0 := Aside0.mk hc0
  have HFN := Aside0.mk hfn
  have HNM := Aside0.mk hname
  have HBD := Aside0.mk hbody
  have HFA := Aside0.mk HF
  clear hr0 hc0 hfn hname hbody HF
  have HB := Aside0.mk (Below.refl w.heap.size w)
  have H : ((impl_FieldsOk.f k l0).bind fun ok => if ok = true then keptL p k l0 [] 0 else some []) = some r := h
  clear h
  obtain ⟨t654, A30, H⟩ := Option.bind_eq_some_iff.mp H
  have A3 := Aside0.mk A30
  clear A30
  cases t654 with
  | true =>
    have H' := Aside0.mk (show keptL p k l0 [] 0 = some r by simpa using H)
    clear H
    go_enter Try.func93, Try.ntmps93
    go_wp2_with (first | ((with_reducible refine gate_callee (f := 97) rfl ?_); refine goesL_ (some 9) rfl rfl Try.func97 (by kernel_rfl) rfl #[.slice A0 l0.length c0] rfl (by (try simp only [List.map_toArray, List.map_cons, List.map_nil]); first | done | rfl) ?_; (with_reducible refine (impl_FieldsOk.calls k _ _ l0 true _ ?side1 ?side2 A3.out).mono ?_); (case side1 => repeat (first | exact HR0.out | (with_reducible refine Kd.C_alloc ?_ _) | (with_reducible refine Kd.C_drewN ?_ _) | (with_reducible refine Kd.C_drew ?_))); (case side2 => exact HC0.out); rintro e w5 ⟨rfl, hb⟩; refine ⟨_, rfl, ?_⟩; have n0_ := Aside0.mk (below_step (by repeat (first | (with_reducible first | exact HB.out | apply below_alloc | apply pw_below_drewN | apply below_drew1) | exact HB.out)) hb); clear HB; have HB := n0_; clear n0_ hb))
    go_loopg [5, 13] k (fun kq v5 v13 w' => ∃ (x5_1 : List S71) (x13_1 : Int), v13 = .int .i64 x13_1 ∧ Aside0 (keptL p kq l0 x5_1 x13_1 = some r) ∧ Aside0 (kq ≤ k) ∧ Aside0 (Kd.R k71 71 w' w.heap.size (fun _ => True) v5 x5_1) ∧ Aside0 (Below w.heap.size w w'))
    case atStart => exact ⟨[], 0, rfl, H', ⟨Nat.le_refl _⟩, ⟨Kd.R_nil _ _ _ _ _⟩, ⟨by repeat (first | (with_reducible first | exact HB.out | apply below_alloc | apply pw_below_drewN | apply below_drew1) | exact HB.out)⟩⟩
    case round =>
      clear H'
      obtain ⟨x5_1, x13_1, rfl, HA, HK1, HO, HB⟩ := hrel
      cases gk with
      | zero => exact absurd HA.out (by simp [keptL])
      | succ k1 =>
        have H := HA.out
        clear HA
        simp only [keptL] at H
        by_cases c6 : x13_1 < (l0.length : Int)
        · rw [if_pos c6] at H
          have c6b0 : decide (x13_1 < (l0.length : Int)) = true := decide_eq_true c6
          by_cases c7 : 0 ≤ x13_1
          case neg => rw [if_neg c7] at H; cases H
          rw [if_pos c7] at H
          obtain ⟨b, A90, H⟩ := Option.bind_eq_some_iff.mp H
          have A9 := Aside0.mk A90
          clear A90
          have c7b0 : decide (0 ≤ x13_1) = true := decide_eq_true c7
          obtain ⟨ad655, e655, hx655_0, hx655_1⟩ := at_T71 HR0.out x13_1 c7 c6
          cases e655
          replace hx655_0 := (HB.out.cell (World.block_lt_of_cell? w _ hx655_0)).trans hx655_0
          replace hx655_1 := (HB.out.cell (World.block_lt_of_cell? w _ hx655_1)).trans hx655_1
          have p655 := eq_true c7
          have q655 := eq_true c6
          clear c6 c7
          cases b with
          | true =>
            simp only [if_true] at H
            by_cases c8 : x5_1.length < 4398046511104
            case neg => rw [if_neg c8] at H; cases H
            rw [if_pos c8] at H
            have HL := Aside0.mk c8
            have H' := Aside0.mk H
            clear H c8
            go_wp2_with (first | (rw [enters_ HFN.out HNM.out HBD.out, Oper.upon_enter]; refine (HFA.out _ _ true (by repeat (first | (with_reducible first | exact HB.out | apply below_alloc | apply pw_below_drewN | apply below_drew1) | exact HB.out)) A9.out).mono ?_; rintro e w14 ⟨rfl, hb⟩; dsimp only; have hz0 : w14.cell? ⟨wr.heap.size, 0, none⟩ = some (.string (rd_T71 l0 x13_1).f0) := (hb.cell (p := ⟨wr.heap.size, 0, none⟩) (by simp)).trans (by go_simp); have hz1 : w14.cell? ⟨wr.heap.size, 1, none⟩ = some (.string (rd_T71 l0 x13_1).f1) := (hb.cell (p := ⟨wr.heap.size, 1, none⟩) (by simp)).trans (by go_simp); have n0_ := Aside0.mk (Kd.R_below (by (with_reducible repeat (first | apply Kd.R_alloc | apply Kd.R_drewN | apply Kd.R_drew)); exact HO.out) hb); have n1_ := Aside0.mk (below_step (by repeat (first | (with_reducible first | exact HB.out | apply below_alloc | apply pw_below_drewN | apply below_drew1) | exact HB.out)) hb); clear HO HB hb; have HO := n0_; have HB := n1_; clear n0_ n1_) | ((with_reducible refine gate_builtin (b := .append) (xs := #[.tmp 21, .tmp 23]) rfl ?_); (try (refine gate_guard (by rfl) ?_; dsimp only)); at_builtin; refine Kd.R_append k71 (w0 := w) w.heap.size rfl (.tmp 21) (.tmp 23) 44 71 (.agg #[(.string ⟨#[]⟩), (.string ⟨#[]⟩)]) 32 rfl Try.underlying44 info71 rfl (by decide) (by omega) u5 x5_1 (rd_T71 l0 x13_1) [.string ((rd_T71 l0 x13_1).f0), .string ((rd_T71 l0 x13_1).f1)] (fun _ => True) (fun _ => False) rfl rfl ?aP (fun _ hk => hk.elim) ?aF ?aO ?aB ?aS ?aL ?_; (case aP => exact k71_mkM _ _ _ (rd_T71 l0 x13_1)); (case aB => exact (by repeat (first | (with_reducible first | exact HB.out | apply below_alloc | apply pw_below_drewN | apply below_drew1) | exact HB.out))); (case aF => exact (fun _ _ => trivial)); (case aO => exact (by (with_reducible repeat (first | apply Kd.R_alloc | apply Kd.R_drewN | apply Kd.R_drew)); exact HO.out)); (case aS => exact (below_size (by repeat (first | (with_reducible first | exact HB.out | apply below_alloc | apply pw_below_drewN | apply below_drew1) | exact HB.out)))); (case aL => have := HL.out; omega); intro v325 w17 ho hb hg hat; have n0_ := Aside0.mk hb; have n1_ := Aside0.mk ho; clear HB HO ho hb hg hat; have HB := n0_; have HO := n1_; clear n0_ n1_))
            go_roundg k1
            case measure => have := HK1.out; omega
            case rel => exact ⟨_, (wrap64 (x13_1 + 1)), rfl, H', ⟨by have := HK1.out; omega⟩, HO, HB⟩
          | false =>
            have H' := Aside0.mk (show keptL p k1 l0 x5_1 (wrap64 (x13_1 + 1)) = some r by simpa using H)
            clear H
            go_wp2_with (rw [enters_ HFN.out HNM.out HBD.out, Oper.upon_enter]; refine (HFA.out _ _ false (by repeat (first | (with_reducible first | exact HB.out | apply below_alloc | apply pw_below_drewN | apply below_drew1) | exact HB.out)) A9.out).mono ?_; rintro e w14 ⟨rfl, hb⟩; dsimp only; have hz0 : w14.cell? ⟨wr.heap.size, 0, none⟩ = some (.string (rd_T71 l0 x13_1).f0) := (hb.cell (p := ⟨wr.heap.size, 0, none⟩) (by simp)).trans (by go_simp); have hz1 : w14.cell? ⟨wr.heap.size, 1, none⟩ = some (.string (rd_T71 l0 x13_1).f1) := (hb.cell (p := ⟨wr.heap.size, 1, none⟩) (by simp)).trans (by go_simp); have n0_ := Aside0.mk (Kd.R_below (by (with_reducible repeat (first | apply Kd.R_alloc | apply Kd.R_drewN | apply Kd.R_drew)); exact HO.out) hb); have n1_ := Aside0.mk (below_step (by repeat (first | (with_reducible first | exact HB.out | apply below_alloc | apply pw_below_drewN | apply below_drew1) | exact HB.out)) hb); clear HO HB hb; have HO := n0_; have HB := n1_; clear n0_ n1_)
            go_roundg k1
            case measure => have := HK1.out; omega
            case rel => exact ⟨x5_1, (wrap64 (x13_1 + 1)), rfl, H', ⟨by have := HK1.out; omega⟩, HO, HB⟩
        · rw [if_neg c6] at H
          have c6b0 : decide (x13_1 < (l0.length : Int)) = false := decide_eq_false c6
          clear c6
          obtain rfl := Option.some.inj H
          go_wp2
          go_ret
          exact ⟨_, rfl, HO.out, HB.out⟩
  | false =>
    obtain rfl : [] = r := by simpa using H
    clear H
    go_enter Try.func93, Try.ntmps93
    go_wp2_with ((with_reducible refine gate_callee (f := 97) rfl ?_); refine goesL_ (some 9) rfl rfl Try.func97 (by kernel_rfl) rfl #[.slice A0 l0.length c0] rfl (by (try simp only [List.map_toArray, List.map_cons, List.map_nil]); first | done | rfl) ?_; (with_reducible refine (impl_FieldsOk.calls k _ _ l0 false _ ?side1 ?side2 A3.out).mono ?_); (case side1 => repeat (first | exact HR0.out | (with_reducible refine Kd.C_alloc ?_ _) | (with_reducible refine Kd.C_drewN ?_ _) | (with_reducible refine Kd.C_drew ?_))); (case side2 => exact HC0.out); rintro e w5 ⟨rfl, hb⟩; refine ⟨_, rfl, ?_⟩; have n0_ := Aside0.mk (below_step (by repeat (first | (with_reducible first | exact HB.out | apply below_alloc | apply pw_below_drewN | apply below_drew1) | exact HB.out)) hb); clear HB; have HB := n0_; clear n0_ hb)
    go_ret
    exact ⟨_, rfl, Kd.R_nil _ _ _ _ _, HB.out⟩

set_option maxHeartbeats 8000000 in
set_option maxRecDepth 100000 in
theorem without_asked (x a1 : ByteArray) (b : Bool) (B : Nat) (w : World) (h : ((impl_SameFold.f x a1).bind fun b => some (!b)) = some b) (hc : w.cell? ⟨B, 0, none⟩ = some (.string a1)) :
    Calls Try.prog 94 #[.string x, .pointer (some ⟨B, 0, none⟩)] w fun e w' => e = .returned (.bool b) ∧ Below w.heap.size w w' := by
  obtain ⟨t, A0, H⟩ := Option.bind_eq_some_iff.mp h
  have A := Aside0.mk A0
  clear A0 h
  obtain rfl := Option.some.inj H
  go_enter Try.func94, Try.ntmps94
  go_wp2_with ((with_reducible refine gate_callee (f := 95) rfl ?_); refine goesL_ (some 6) rfl rfl Try.func95 (by kernel_rfl) rfl #[.string x, .string a1] rfl (by (try simp only [List.map_toArray, List.map_cons, List.map_nil]); first | done | rfl) ?_; (with_reducible refine (impl_SameFold.calls x a1 t _ A.out).mono ?_); rintro e w14 ⟨rfl, hb⟩; refine ⟨_, rfl, ?_⟩; have HB := Aside0.mk hb; clear hb)
  go_ret
  exact ⟨rfl, HB.out⟩
def impl_Without.f (k : Nat) (l0 : List S71) (a1 : ByteArray) : Option (List S71) := keptF (fun x => (impl_SameFold.f x a1).bind fun b => some (!b)) k l0
theorem kept_mono_l (p : ByteArray → Option Bool) : ∀ k, (∀ l o i, LeO (keptL p k l o i) (keptL p (k + 1) l o i))
  | 0 => fun _ _ _ r h => by simp [keptL] at h
  | k + 1 => fun l o i => by
    have ih0 := kept_mono_l p k
    unfold keptL
    exact LeO.ite (LeO.ite (LeO.bind (LeO.refl _) fun b => LeO.ite (LeO.ite (ih0 _ _ _) (LeO.refl _)) (ih0 _ _ _)) (LeO.refl _)) (LeO.refl _)
theorem impl_Without.mono : ∀ a0 a1 k, LeO (impl_Without.f k a0 a1) (impl_Without.f (k + 1) a0 a1) := by
  intro a0 a1 k
  unfold impl_Without.f keptF
  exact LeO.bind (impl_FieldsOk.mono _ _) fun ok => LeO.ite (kept_mono_l _ _ _ _ _) (LeO.refl _)
set_option maxHeartbeats 8000000 in
set_option maxRecDepth 100000 in
theorem impl_Without.calls (k : Nat) (A0 : Option Addr) (c0 : Nat) (l0 : List S71) (a1 : ByteArray) (r : List S71) (w : World) (hr0 : Kd.C k71 w A0 l0.length l0) (hc0 : l0.length ≤ c0) (h : impl_Without.f k l0 a1 = some r) :
    Calls Try.prog 45 #[.slice A0 l0.length c0, .string a1] w fun e w' => ∃ v0_ : Value, e = .returned (v0_) ∧ Kd.R k71 71 w' w.heap.size (fun _ => True) v0_ r ∧ Below w.heap.size w w' := by
  have HR0 := Aside0.mk hr0
  have HC0 := Aside0.mk hc0
  have H := Aside0.mk h
  clear hr0 hc0 h
  go_enter Try.func45, Try.ntmps45
  go_wp2_with fail
  refine (kept_calls (fun x => (impl_SameFold.f x a1).bind fun b => some (!b)) 94 Try.f94 Try.func94 (by kernel_rfl) rfl #[.pointer (some ⟨w.heap.size, 0, none⟩)] _ ?_ k A0 c0 l0 r ?_ HC0.out H.out).mono ?_
  · intro W x b hB hp
    exact without_asked x a1 b _ W hp ((hB.cell (p := ⟨w.heap.size, 0, none⟩) (by simp)).trans (by go_simp))
  · exact Kd.C_alloc HR0.out _
  · rintro e w5 ⟨v, rfl, hR, hb⟩
    dsimp only
    have hw1 : Below w.heap.size w (w.alloc (Obj.cells #[Value.string a1] 9)) := below_alloc (Below.refl w.heap.size w) _
    have HB := Aside0.mk (below_step hw1 hb)
    have HR := Aside0.mk (Kd.R_lower hR (below_size hw1))
    clear hw1
    clear hR hb
    go_wp2
    go_ret
    exact ⟨_, rfl, HR.out, HB.out⟩

end Go.Proofs.Ytahgiblifkchaaa.P
