/- The program's DirsText and the reference's make the same text, whatever the directives: plain laws; no condition beyond those written. -/
import Derived.Test.YtahgiblifkchaaaDoorDLaw
import Derived.Test.YtahgiblifkchaaaDoorLDirsOk
namespace Go.Proofs.YtahgiblifkchaaaDoor.P
open Go.RowKit Go.Proofs.YtahgiblifkchaaaDoorW.PrintWords Go.Proofs.YtahgiblifkchaaaDoorW.PrintLast Go.Proofs.YtahgiblifkchaaaDoorW.PrintMore
set_option linter.unusedVariables false
set_option linter.unusedSimpArgs false
set_option maxHeartbeats 2000000
theorem wrap_id2 {x : Int} (h : -9223372036854775808 ≤ x) (h' : x ≤ 9223372036854775807) : wrap64 x = x := by unfold wrap64; omega
def txt (xs : List ByteArray) : ByteArray := ⟨(joinL xs).toArray⟩
theorem txt_size (xs : List ByteArray) : (txt xs).size = (joinL xs).length := by simp [txt, ByteArray.size]
theorem joinL_snoc_nil (y : ByteArray) : joinL [y] = y.data.toList := by unfold joinL; exact Go.Lib.join_one _ _
theorem joinL_snoc (x : ByteArray) (r : List ByteArray) (y : ByteArray) : joinL ((x :: r) ++ [y]) = joinL (x :: r) ++ ([44, 32] ++ y.data.toList) := by
  unfold joinL
  simp only [List.cons_append, List.map_cons, List.map_append, List.map_nil]
  rw [Go.Lib.join_cons, Go.Lib.join_cons]
  simp [Go.Lib.joinTail]
structure Good (xs : List ByteArray) (m : Nat) : Prop where
  ne : ∀ x ∈ xs, x.size ≠ 0
  le : (joinL xs).length ≤ m
theorem good_nil : Good [] 0 := ⟨(fun x h => absurd h List.not_mem_nil), (by simp [joinL, Go.Lib.join_nil])⟩
theorem good_add {xs : List ByteArray} {m : Nat} (h : Good xs m) (b : Bool) (nm : ByteArray) (h0 : nm.size ≠ 0) (h1 : nm.size ≤ 1100) : Good (addF xs b nm) (m + 1200) := by
  unfold addF
  have hl : nm.data.toList.length = nm.size := data_length nm
  cases b with
  | false => rw [if_neg (by decide)]; exact ⟨h.ne, by have := h.le; omega⟩
  | true =>
    rw [if_pos rfl]
    refine ⟨fun x hx => ?_, ?_⟩
    · rcases List.mem_append.mp hx with h2 | h2
      · exact h.ne x h2
      · rw [List.mem_singleton.mp h2]; exact h0
    · have h3 := h.le
      cases xs with
      | nil => rw [List.nil_append, joinL_snoc_nil]; omega
      | cons x r => rw [joinL_snoc]; simp; omega
theorem spec_word_eq {xs : List ByteArray} {m : Nat} (h : Good xs m) (hm : m ≤ 100000) (b : Bool) (nm : ByteArray) (h1 : nm.size ≤ 1100) : spec_l12word.f (txt xs) b nm = some (txt (addF xs b nm)) := by
  have hs := txt_size xs
  have hle := h.le
  unfold spec_l12word.f addF
  cases b with
  | false => rw [if_neg (by decide), if_neg (by decide)]
  | true =>
    rw [if_pos rfl, if_pos rfl]
    cases xs with
    | nil =>
      have e0 : (txt []).toList = ([] : List UInt8) := by rw [ByteArray.toList_eq]; simp [txt, joinL, Go.Lib.join_nil]
      rw [if_pos e0, if_pos (by omega), List.nil_append]
      congr 1
      unfold txt
      rw [joinL_snoc_nil]
      apply ByteArray.ext
      simp [joinL, Go.Lib.join_nil]
    | cons x r =>
      have hx := h.ne x (List.mem_cons_self ..)
      have hlx : x.data.toList.length = x.size := data_length x
      have hne : joinL (x :: r) ≠ [] := by
        unfold joinL
        rw [List.map_cons, Go.Lib.join_cons]
        intro e
        have := congrArg List.length e
        rw [List.length_append, List.length_nil] at this
        omega
      have e0 : ¬ (txt (x :: r)).toList = ([] : List UInt8) := by rw [ByteArray.toList_eq]; simpa [txt] using hne
      have hz : (txt (x :: r) ++ (⟨#[44, 32]⟩ : ByteArray)).size = (joinL (x :: r)).length + 2 := by rw [ByteArray.size_append, hs]; rfl
      rw [if_neg e0, if_pos (by omega), if_pos (by omega)]
      congr 1
      unfold txt
      rw [joinL_snoc]
      apply ByteArray.ext
      simp
/-! ### the decimal text -/
theorem one_byte (x : Nat) (hx : x < 10) : strOfNums [(wrap64 (48 + (x : Int))) % 256] = (⟨#[UInt8.ofNat (48 + x)]⟩ : ByteArray) := by
  rw [wrap_id2 (by omega) (by omega)]
  unfold strOfNums
  have e : ((48 + (x : Int)) % 256).toNat = 48 + x := by omega
  simp [e]
theorem spec_dec : ∀ (d u : Nat), u < 10 ^ (d + 1) → u ≤ 999999999999999 → d ≤ 20 → ∀ k, 2 * d + 2 ≤ k → spec_DecText.f k (u : Int) = some ⟨(Lib.decDigits u).toArray⟩ := by
  intro d
  induction d with
  | zero =>
    intro u hu hu2 hd k hk
    obtain ⟨k, rfl⟩ : ∃ m, k = m + 2 := ⟨k - 2, by omega⟩
    have h10 : u < 10 := by simpa using hu
    rw [spec_DecText.f.eq_def]
    dsimp only
    rw [if_neg (by omega), decide_eq_false (by omega), spec_DecText.j0.eq_def]
    dsimp only
    rw [if_neg (by decide), if_pos (by omega), one_byte u h10, Lib.decDigits_one h10]
  | succ d ih =>
    intro u hu hu2 hd k hk
    obtain ⟨k, rfl⟩ : ∃ m, k = m + 2 := ⟨k - 2, by omega⟩
    rw [spec_DecText.f.eq_def]
    dsimp only
    rw [if_neg (by omega), decide_eq_false (by omega), spec_DecText.j0.eq_def]
    dsimp only
    rw [if_neg (by decide)]
    by_cases h10 : u < 10
    · rw [if_pos (by omega), one_byte u h10, Lib.decDigits_one h10]
    · have e1 : wrap64 (Int.tdiv (u : Int) 10) = ((u / 10 : Nat) : Int) := by
        have : Int.tdiv (u : Int) 10 = ((u / 10 : Nat) : Int) := rfl
        rw [this, wrap_id2 (by omega) (by omega)]
      have e2 : Int.tmod (u : Int) 10 = ((u % 10 : Nat) : Int) := rfl
      have hq : u / 10 < 10 ^ (d + 1) := by
        rw [Nat.pow_succ] at hu
        omega
      rw [if_neg (by omega), e1, ih (u / 10) hq (by omega) (by omega) k (by omega), Option.bind_some, Option.bind_some, e2, one_byte (u % 10) (by omega)]
      have hl : (Lib.decDigits (u / 10)).length ≤ 21 := by
        have h1 := Lib.itoa_length_le ((u / 10 : Nat) : Int) (by omega) (by omega)
        unfold Lib.itoa at h1
        rw [if_neg (by omega), Int.toNat_natCast] at h1
        exact h1
      have hs1 : (⟨(Lib.decDigits (u / 10)).toArray⟩ : ByteArray).size ≤ 21 := by simpa [ByteArray.size] using hl
      have hs2 : (⟨#[UInt8.ofNat (48 + u % 10)]⟩ : ByteArray).size = 1 := rfl
      have e3 : Lib.decDigits u = Lib.decDigits (u / 10) ++ [UInt8.ofNat (48 + u % 10)] := by rw [Lib.decDigits, dif_neg h10]
      rw [if_pos (by omega), e3]
      congr 1
theorem spec_DecText_eq (n : Int) (k : Nat) (hk : 100 ≤ k) : spec_DecText.f k n = some (decT n) := by
  unfold decT
  by_cases h : 0 ≤ n ∧ n ≤ 999999999999999
  · obtain ⟨u, rfl⟩ := Int.eq_ofNat_of_zero_le h.1
    rw [if_pos h, spec_dec 15 u (by have := h.2; omega) (by have := h.2; omega) (by decide) k (by omega)]
    unfold Lib.itoa
    rw [if_neg (by omega), Int.toNat_natCast]
  · rw [if_neg h]
    obtain ⟨k, rfl⟩ : ∃ m, k = m + 2 := ⟨k - 2, by omega⟩
    rw [spec_DecText.f.eq_def]
    dsimp only
    by_cases h0 : n < 0
    · rw [if_pos h0, spec_DecText.j0.eq_def]
      dsimp only
      rw [if_pos rfl]
    · rw [if_neg h0, decide_eq_true (by omega), spec_DecText.j0.eq_def]
      dsimp only
      rw [if_pos rfl]
theorem decT_size (n : Int) : (decT n).size ≤ 21 := by
  unfold decT
  by_cases h : 0 ≤ n ∧ n ≤ 999999999999999
  · rw [if_pos h]
    have := Lib.itoa_length_le n (by omega) (by omega)
    simpa [ByteArray.size] using this
  · rw [if_neg h]; exact Nat.zero_le _
theorem pre_size (p : ByteArray) (n : Int) : (p ++ decT n).size = p.size + (decT n).size := ByteArray.size_append
/-- Both texts are the same. -/
theorem DirsText_same (b0 b1 b2 b3 b4 b5 : Bool) (n6 n7 n8 n9 : Int) : ∃ (k : Nat) (t : ByteArray), spec_DirsText.f k b0 b1 b2 b3 b4 b5 n6 n7 n8 n9 = some t ∧ impl_DirsText.f b0 b1 b2 b3 b4 b5 n6 n7 n8 n9 = some t := by
  refine ⟨100, if dirsOkOf n6 n7 n8 n9 = true then txt (dl9 b0 b1 b2 b3 b4 b5 n6 n7 n8 n9) else ⟨#[]⟩, ?_, ?_⟩
  all_goals
    have s6 := decT_size n6
    have s7 := decT_size n7
    have s8 := decT_size n8
    have s9 := decT_size n9
    have g0 : Good (dl0 b0 b1 b2 b3 b4 b5 n6 n7 n8 n9) 1200 := good_add good_nil _ _ (by decide) (by decide)
    have g1 : Good (dl1 b0 b1 b2 b3 b4 b5 n6 n7 n8 n9) 2400 := good_add g0 _ _ (by decide) (by decide)
    have g2 : Good (dl2 b0 b1 b2 b3 b4 b5 n6 n7 n8 n9) 3600 := good_add g1 _ _ (by decide) (by decide)
    have g3 : Good (dl3 b0 b1 b2 b3 b4 b5 n6 n7 n8 n9) 4800 := good_add g2 _ _ (by decide) (by decide)
    have g4 : Good (dl4 b0 b1 b2 b3 b4 b5 n6 n7 n8 n9) 6000 := good_add g3 _ _ (by decide) (by decide)
    have g5 : Good (dl5 b0 b1 b2 b3 b4 b5 n6 n7 n8 n9) 7200 := good_add g4 _ _ (by decide) (by decide)
    have z6 : ((⟨#[109, 97, 120, 45, 97, 103, 101, 61]⟩ : ByteArray) ++ decT n6).size = 8 + (decT n6).size := pre_size _ _
    have z7 : ((⟨#[115, 45, 109, 97, 120, 97, 103, 101, 61]⟩ : ByteArray) ++ decT n7).size = 9 + (decT n7).size := pre_size _ _
    have z8 : ((⟨#[109, 97, 120, 45, 115, 116, 97, 108, 101, 61]⟩ : ByteArray) ++ decT n8).size = 10 + (decT n8).size := pre_size _ _
    have z9 : ((⟨#[109, 105, 110, 45, 102, 114, 101, 115, 104, 61]⟩ : ByteArray) ++ decT n9).size = 10 + (decT n9).size := pre_size _ _
    have g6 : Good (dl6 b0 b1 b2 b3 b4 b5 n6 n7 n8 n9) 8400 := good_add g5 _ _ (by omega) (by omega)
    have g7 : Good (dl7 b0 b1 b2 b3 b4 b5 n6 n7 n8 n9) 9600 := good_add g6 _ _ (by omega) (by omega)
    have g8 : Good (dl8 b0 b1 b2 b3 b4 b5 n6 n7 n8 n9) 10800 := good_add g7 _ _ (by omega) (by omega)
    have g9 : Good (dl9 b0 b1 b2 b3 b4 b5 n6 n7 n8 n9) 12000 := good_add g8 _ _ (by omega) (by omega)
  · unfold spec_DirsText.f
    rw [spec_DirsOk_eq, Option.bind_some]
    by_cases hok : dirsOkOf n6 n7 n8 n9 = true
    · rw [if_pos hok, if_pos hok]
      have w0 : spec_l12word.f (⟨#[]⟩ : ByteArray) b0 (⟨#[110, 111, 45, 115, 116, 111, 114, 101]⟩ : ByteArray) = some (txt (dl0 b0 b1 b2 b3 b4 b5 n6 n7 n8 n9)) := spec_word_eq good_nil (by decide) b0 _ (by decide)
      rw [w0, Option.bind_some]
      have w1 : spec_l12word.f (txt (dl0 b0 b1 b2 b3 b4 b5 n6 n7 n8 n9)) b1 _ = some (txt (dl1 b0 b1 b2 b3 b4 b5 n6 n7 n8 n9)) := spec_word_eq g0 (by decide) b1 _ (by decide)
      rw [w1, Option.bind_some]
      have w2 : spec_l12word.f (txt (dl1 b0 b1 b2 b3 b4 b5 n6 n7 n8 n9)) b2 _ = some (txt (dl2 b0 b1 b2 b3 b4 b5 n6 n7 n8 n9)) := spec_word_eq g1 (by decide) b2 _ (by decide)
      rw [w2, Option.bind_some]
      have w3 : spec_l12word.f (txt (dl2 b0 b1 b2 b3 b4 b5 n6 n7 n8 n9)) b3 _ = some (txt (dl3 b0 b1 b2 b3 b4 b5 n6 n7 n8 n9)) := spec_word_eq g2 (by decide) b3 _ (by decide)
      rw [w3, Option.bind_some]
      have w4 : spec_l12word.f (txt (dl3 b0 b1 b2 b3 b4 b5 n6 n7 n8 n9)) b4 _ = some (txt (dl4 b0 b1 b2 b3 b4 b5 n6 n7 n8 n9)) := spec_word_eq g3 (by decide) b4 _ (by decide)
      rw [w4, Option.bind_some]
      have w5 : spec_l12word.f (txt (dl4 b0 b1 b2 b3 b4 b5 n6 n7 n8 n9)) b5 _ = some (txt (dl5 b0 b1 b2 b3 b4 b5 n6 n7 n8 n9)) := spec_word_eq g4 (by decide) b5 _ (by decide)
      rw [w5, Option.bind_some, spec_DecText_eq n6 100 (by decide), Option.bind_some, if_pos (by omega)]
      have w6 : spec_l12word.f (txt (dl5 b0 b1 b2 b3 b4 b5 n6 n7 n8 n9)) (decide (n6 ≥ 0)) ((⟨#[109, 97, 120, 45, 97, 103, 101, 61]⟩ : ByteArray) ++ decT n6) = some (txt (dl6 b0 b1 b2 b3 b4 b5 n6 n7 n8 n9)) := spec_word_eq g5 (by decide) _ _ (by omega)
      rw [w6, Option.bind_some, spec_DecText_eq n7 100 (by decide), Option.bind_some, if_pos (by omega)]
      have w7 : spec_l12word.f (txt (dl6 b0 b1 b2 b3 b4 b5 n6 n7 n8 n9)) (decide (n7 ≥ 0)) ((⟨#[115, 45, 109, 97, 120, 97, 103, 101, 61]⟩ : ByteArray) ++ decT n7) = some (txt (dl7 b0 b1 b2 b3 b4 b5 n6 n7 n8 n9)) := spec_word_eq g6 (by decide) _ _ (by omega)
      rw [w7, Option.bind_some, spec_DecText_eq n8 100 (by decide), Option.bind_some, if_pos (by omega)]
      have w8 : spec_l12word.f (txt (dl7 b0 b1 b2 b3 b4 b5 n6 n7 n8 n9)) (decide (n8 ≥ 0)) ((⟨#[109, 97, 120, 45, 115, 116, 97, 108, 101, 61]⟩ : ByteArray) ++ decT n8) = some (txt (dl8 b0 b1 b2 b3 b4 b5 n6 n7 n8 n9)) := spec_word_eq g7 (by decide) _ _ (by omega)
      rw [w8, Option.bind_some, spec_DecText_eq n9 100 (by decide), Option.bind_some, if_pos (by omega)]
      have w9 : spec_l12word.f (txt (dl8 b0 b1 b2 b3 b4 b5 n6 n7 n8 n9)) (decide (n9 ≥ 0)) ((⟨#[109, 105, 110, 45, 102, 114, 101, 115, 104, 61]⟩ : ByteArray) ++ decT n9) = some (txt (dl9 b0 b1 b2 b3 b4 b5 n6 n7 n8 n9)) := spec_word_eq g8 (by decide) _ _ (by omega)
      rw [w9, Option.bind_some]
    · rw [if_neg hok, if_neg hok]
  · unfold impl_DirsText.f
    rw [impl_DirsOk_eq, Option.bind_some]
    by_cases hok : dirsOkOf n6 n7 n8 n9 = true
    · have := g9.le
      rw [if_pos hok, if_pos hok, if_pos ⟨by omega, by omega, by omega, by omega, by omega⟩]
      rfl
    · rw [if_neg hok, if_neg hok]
end Go.Proofs.YtahgiblifkchaaaDoor.P
