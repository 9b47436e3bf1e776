/- The program's Guessed answers what the reference's answers, for every number; no condition. -/
import Derived.Test.YtphejighpbgmcaaPFnExactGuessedx1
namespace Go.Proofs.Ytphejighpbgmcaa.Pure
open Go.RowKit Go.Proofs.Ytphejighpbgmcaa.PFnExactGuessed Go.Proofs.YtphejighpbgmcaaW.PrintWords Go.Proofs.YtphejighpbgmcaaW.PrintLast

theorem step (k : Nat) (l : List Int) (a n : Int) (i : Nat) (v : Int) (hn : (i : Int) < n) (hi : i < l.length) (hb : l.length ≤ 100) (hv : rd l (i : Int) = v) :
    slices_Index_int_int.l0 (k + 1) l a n (i : Int) = if a = v then some (i : Int) else slices_Index_int_int.l0 k l a n ((i + 1 : Nat) : Int) := by
  have hw : wrap64 ((i : Int) + 1) = ((i + 1 : Nat) : Int) := by unfold wrap64; omega
  simp only [slices_Index_int_int.l0]
  rw [if_pos hn, if_pos (by omega), if_pos (by omega), hv, hw]

theorem idx (a0 : Int) : slices_Index_int_int.l0 12 ([200, 203, 204, 300, 301, 308, 404, 405, 410, 414, 501] : List Int) a0 (([200, 203, 204, 300, 301, 308, 404, 405, 410, 414, 501] : List Int).length : Int) ((0 : Nat) : Int) = if a0 = 200 then some ((0 : Nat) : Int) else if a0 = 203 then some ((1 : Nat) : Int) else if a0 = 204 then some ((2 : Nat) : Int) else if a0 = 300 then some ((3 : Nat) : Int) else if a0 = 301 then some ((4 : Nat) : Int) else if a0 = 308 then some ((5 : Nat) : Int) else if a0 = 404 then some ((6 : Nat) : Int) else if a0 = 405 then some ((7 : Nat) : Int) else if a0 = 410 then some ((8 : Nat) : Int) else if a0 = 414 then some ((9 : Nat) : Int) else if a0 = 501 then some ((10 : Nat) : Int) else some (-1) := by
  rw [step 11 _ a0 _ 0 200 (by decide) (by decide) (by decide) rfl, step 10 _ a0 _ 1 203 (by decide) (by decide) (by decide) rfl, step 9 _ a0 _ 2 204 (by decide) (by decide) (by decide) rfl, step 8 _ a0 _ 3 300 (by decide) (by decide) (by decide) rfl, step 7 _ a0 _ 4 301 (by decide) (by decide) (by decide) rfl, step 6 _ a0 _ 5 308 (by decide) (by decide) (by decide) rfl, step 5 _ a0 _ 6 404 (by decide) (by decide) (by decide) rfl, step 4 _ a0 _ 7 405 (by decide) (by decide) (by decide) rfl, step 3 _ a0 _ 8 410 (by decide) (by decide) (by decide) rfl, step 2 _ a0 _ 9 414 (by decide) (by decide) (by decide) rfl, step 1 _ a0 _ 10 501 (by decide) (by decide) (by decide) rfl]
  rfl
theorem ref_yes (a0 : Int) (h : a0 = 200 ∨ a0 = 203 ∨ a0 = 204 ∨ a0 = 300 ∨ a0 = 301 ∨ a0 = 308 ∨ a0 = 404 ∨ a0 = 405 ∨ a0 = 410 ∨ a0 = 414 ∨ a0 = 501) : spec_Guessed.f a0 = some true := by
  rcases h with rfl | rfl | rfl | rfl | rfl | rfl | rfl | rfl | rfl | rfl | rfl <;> decide
theorem own_yes (a0 : Int) (h : a0 = 200 ∨ a0 = 203 ∨ a0 = 204 ∨ a0 = 300 ∨ a0 = 301 ∨ a0 = 308 ∨ a0 = 404 ∨ a0 = 405 ∨ a0 = 410 ∨ a0 = 414 ∨ a0 = 501) : impl_Guessed.f 12 a0 = some true := by
  unfold impl_Guessed.f slices_Contains_int_int.f slices_Index_int_int.f
  rw [show slices_Index_int_int.l0 12 ([200, 203, 204, 300, 301, 308, 404, 405, 410, 414, 501] : List Int) a0 (([200, 203, 204, 300, 301, 308, 404, 405, 410, 414, 501] : List Int).length : Int) 0 = _ from idx a0]
  rcases h with rfl | rfl | rfl | rfl | rfl | rfl | rfl | rfl | rfl | rfl | rfl <;> decide
theorem ref_no (a0 : Int) (h200 : ¬ a0 = 200) (h203 : ¬ a0 = 203) (h204 : ¬ a0 = 204) (h300 : ¬ a0 = 300) (h301 : ¬ a0 = 301) (h308 : ¬ a0 = 308) (h404 : ¬ a0 = 404) (h405 : ¬ a0 = 405) (h410 : ¬ a0 = 410) (h414 : ¬ a0 = 414) (h501 : ¬ a0 = 501) : spec_Guessed.f a0 = some false := by
  unfold spec_Guessed.f
  rw [if_neg h200, if_neg h203, if_neg h204, if_neg h300, if_neg h301, if_neg h308, if_neg h404, if_neg h405, if_neg h410, if_neg h414, if_neg h501]
theorem own_no (a0 : Int) (h200 : ¬ a0 = 200) (h203 : ¬ a0 = 203) (h204 : ¬ a0 = 204) (h300 : ¬ a0 = 300) (h301 : ¬ a0 = 301) (h308 : ¬ a0 = 308) (h404 : ¬ a0 = 404) (h405 : ¬ a0 = 405) (h410 : ¬ a0 = 410) (h414 : ¬ a0 = 414) (h501 : ¬ a0 = 501) : impl_Guessed.f 12 a0 = some false := by
  unfold impl_Guessed.f slices_Contains_int_int.f slices_Index_int_int.f
  rw [show slices_Index_int_int.l0 12 ([200, 203, 204, 300, 301, 308, 404, 405, 410, 414, 501] : List Int) a0 (([200, 203, 204, 300, 301, 308, 404, 405, 410, 414, 501] : List Int).length : Int) 0 = _ from idx a0, if_neg h200, if_neg h203, if_neg h204, if_neg h300, if_neg h301, if_neg h308, if_neg h404, if_neg h405, if_neg h410, if_neg h414, if_neg h501]
  decide
theorem FnExactGuessed : laws_FnExactGuessed.Pure := by
  intro a0 _
  refine ⟨12, ?_⟩
  unfold laws_FnExactGuessed.f
  by_cases h : a0 = 200 ∨ a0 = 203 ∨ a0 = 204 ∨ a0 = 300 ∨ a0 = 301 ∨ a0 = 308 ∨ a0 = 404 ∨ a0 = 405 ∨ a0 = 410 ∨ a0 = 414 ∨ a0 = 501
  · rw [ref_yes a0 h, own_yes a0 h]; rfl
  · rw [ref_no a0 (fun e => h (by omega)) (fun e => h (by omega)) (fun e => h (by omega)) (fun e => h (by omega)) (fun e => h (by omega)) (fun e => h (by omega)) (fun e => h (by omega)) (fun e => h (by omega)) (fun e => h (by omega)) (fun e => h (by omega)) (fun e => h (by omega)), own_no a0 (fun e => h (by omega)) (fun e => h (by omega)) (fun e => h (by omega)) (fun e => h (by omega)) (fun e => h (by omega)) (fun e => h (by omega)) (fun e => h (by omega)) (fun e => h (by omega)) (fun e => h (by omega)) (fun e => h (by omega)) (fun e => h (by omega))]; rfl

end Go.Proofs.Ytphejighpbgmcaa.Pure
