/- The program's DirsText, walked: what it answers, given that strconv's table reads as its text lays it. -/
import Derived.Test.YtahgiblifkchaaaDoorPximpl12a
import Derived.Test.YtahgiblifkchaaaDoorShelf
import Derived.Lib.AppendIntMem
import Derived.Lib.ItoaLen
namespace Go.Proofs.YtahgiblifkchaaaDoor.P
open Go.RowKit Go.Proofs.YtahgiblifkchaaaDoorW.PrintWords Go.Proofs.YtahgiblifkchaaaDoorW.PrintLast Go.Proofs.YtahgiblifkchaaaDoorW.PrintMore
attribute [local go_sem] max2_int min2_int max_two min_two max_three min_three max_four min_four
set_option linter.unusedVariables false
set_option linter.unusedSimpArgs false
theorem info9 : (Tryd.prog.info? 9).map (fun i => (i.zero, i.size, i.bytes)) = some (some (.string ⟨#[]⟩), 1, 16) := by kernel_rfl
/-- The table that strconv reads. -/
def Tab10 (w : World) : Prop := Lib.TabIs Tryd.prog w "internal/strconv.uint64pow10" .u64 Lib.pow10Tab
theorem tab_below {B : Nat} {w w' : World} (h : Tab10 w) (hb : Below B w w') (hB : ∀ g, Tryd.prog.globalNamed "internal/strconv.uint64pow10" = some g → g < B) : Tab10 w' := by
  unfold Tab10 Lib.TabIs World.var? at *
  cases hg : Tryd.prog.globalNamed "internal/strconv.uint64pow10" with
  | none => rw [hg] at h; cases h
  | some g =>
    rw [hg] at h
    rw [Option.bind_some] at h ⊢
    rw [hb.block g (hB g hg)]
    exact h
theorem tab_lt {w : World} (h : Tab10 w) : ∀ g, Tryd.prog.globalNamed "internal/strconv.uint64pow10" = some g → g < w.heap.size := by
  intro g hg
  unfold Tab10 Lib.TabIs World.var? at h
  rw [hg, Option.bind_some] at h
  cases hh : w.heap[g]? with
  | none => rw [hh] at h; cases h
  | some o => exact blk_lt hh
def decT (n : Int) : ByteArray := if 0 ≤ n ∧ n ≤ 999999999999999 then ⟨(Lib.itoa n).toArray⟩ else ⟨#[]⟩
theorem decT_calls (n : Int) (w : World) (ht : Tab10 w) :
    Calls Tryd.prog 21 #[.int .i64 n] w fun e w' => e = .returned (.string (decT n)) ∧ Below w.heap.size w w' := by
  have hT := Aside0.mk ht
  clear ht
  by_cases hn : 0 ≤ n ∧ n ≤ 999999999999999
  · have hw : impl_within.f n 0 999999999999999 = some true := by
      unfold impl_within.f
      rw [if_pos hn.1, decide_eq_true hn.2]
    have A := Aside0.mk hw
    have N := Aside0.mk hn
    rw [show decT n = ⟨(Lib.itoa n).toArray⟩ from if_pos hn]
    clear hw hn
    go_enter Tryd.func21, Tryd.ntmps21
    go_wp2_with fail
    refine (impl_within.calls n 0 999999999999999 true _ A.out).mono ?_
    rintro e w5 ⟨rfl, ⟨nd, rfl⟩⟩
    dsimp only
    go_wp2_with fail
    refine (Tryd.strconv_Itoa n (by have := N.out; omega) (by have := N.out; omega) _ (tab_below hT.out (pw_below_drewN (Below.refl _ _) nd) (tab_lt hT.out))).mono ?_
    rintro e w6 ⟨rfl, k, os, rfl⟩
    dsimp only
    go_wp2
    go_ret
    exact ⟨rfl, below_step (pw_below_drewN (Below.refl _ _) nd) (Lib.below_grow _ _ (Nat.le_refl _) k os)⟩
  · have hw : impl_within.f n 0 999999999999999 = some false := by
      unfold impl_within.f
      by_cases h0 : 0 ≤ n
      · rw [if_pos h0, decide_eq_false (fun h => hn ⟨h0, h⟩)]
      · rw [if_neg h0]
    have A := Aside0.mk hw
    rw [show decT n = ⟨#[]⟩ from if_neg hn]
    clear hw hn
    go_enter Tryd.func21, Tryd.ntmps21
    go_wp2_with fail
    refine (impl_within.calls n 0 999999999999999 false _ A.out).mono ?_
    rintro e w5 ⟨rfl, ⟨nd, rfl⟩⟩
    dsimp only
    go_wp2
    go_ret
    exact ⟨rfl, pw_below_drewN (Below.refl _ _) nd⟩
theorem box_after0 {w w1 : World} {B : Nat} {v v1 : Value} {e : TypeId} {base base' : Nat} {xs ys : List ByteArray} (hbox : w.heap[B]? = some (.cells #[v] e (0, 0))) (hR : Kd.R Kd.string 9 w base (fun k_ => k_ ≠ B) v xs)
    (hg : w.grownBy w1 v.ownBlock) (ho : Kd.R Kd.string 9 w1 base' (fun k_ => k_ ≠ B) v1 ys) :
    (∃ A c, v1 = .slice A ys.length c) ∧ w1.heap[B]? = some (.cells #[v] e (0, 0)) ∧ w1.cell? ⟨B, 0, none⟩ = some v ∧ w1.frozen? ⟨B, 0, none⟩ = false := by
  have hb1 : w1.heap[B]? = some (.cells #[v] e (0, 0)) := blk_grown hbox hg (fun e_ => hR.1 B e_.symm rfl)
  exact ⟨R_slice ho, hb1, by rw [cell_of_row w1 B 0 _ _ _ hb1]; rfl, blk_frozen hb1 0⟩
set_option maxHeartbeats 8000000 in
set_option maxRecDepth 100000 in
theorem flag_calls (b : Bool) (nm : ByteArray) (B : Nat) (v : Value) (xs : List ByteArray) (w w0 : World) (base : Nat)
    (hbox : w.heap[B]? = some (.cells #[v] 43 (0, 0))) (hR : Kd.R Kd.string 9 w base (fun k_ => k_ ≠ B) v xs) (hbel : Below base w0 w) (hbase : base ≤ B) (hlen : xs.length < 8796093022208) :
    Calls Tryd.prog 20 #[.bool b, .string nm, .pointer (some ⟨B, 0, none⟩)] w fun e w' => ∃ v', e = .returned (.tuple #[]) ∧ w'.heap[B]? = some (.cells #[v'] 43 (0, 0)) ∧
      Kd.R Kd.string 9 w' base (fun k_ => k_ ≠ B) v' (if b = true then xs ++ [nm] else xs) ∧ Below base w0 w' := by
  obtain ⟨A0, c0, rfl⟩ := R_slice hR
  have hBlt := blk_lt hbox
  have Hbox := Aside0.mk hbox
  have HR := Aside0.mk hR
  have HB := Aside0.mk hbel
  clear hR hbel
  cases b with
  | false =>
    rw [if_neg (by decide)]
    clear hbox
    go_enter Tryd.func20, Tryd.ntmps20
    go_wp2
    first | go_end0 | ((try simp only [Exit.inBlock, Exit.then]); refine bodyPost_ret (results_none rfl _ _ _) rfl ?_)
    exact ⟨_, rfl, Hbox.out, HR.out, HB.out⟩
  | true =>
    rw [if_pos rfl]
    have hcell : w.cell? ⟨B, 0, none⟩ = some (.slice A0 xs.length c0) := by rw [cell_of_row w B 0 _ _ _ hbox]; rfl
    clear hbox
    go_enter Tryd.func20, Tryd.ntmps20
    go_wp2_with ((with_reducible refine gate_builtin (b := .append) (xs := #[.tmp 6, .tmp 8]) rfl ?_); (try (refine gate_guard (by rfl) ?_; dsimp only)); at_builtin; refine Kd.R_append Kd.string (w0 := w0) base rfl (.tmp 6) (.tmp 8) 43 9 (.string ⟨#[]⟩) 16 rfl Tryd.underlying43 info9 rfl (by decide) (by omega) (.slice A0 xs.length c0) xs nm [.string nm] (fun k_ => k_ ≠ B) (fun _ => False) rfl rfl ?aP (fun _ hk => hk.elim) ?aF ?aO ?aB ?aS ?aL ?_; (case aP => exact rfl); (case aF => intro k_ hk e_; subst e_; first | omega | (simp at hk; omega)); (case aO => exact (by (with_reducible repeat (first | apply Kd.R_alloc | apply Kd.R_drewN | apply Kd.R_drew)); exact HR.out)); (case aB => exact (by repeat (first | (with_reducible first | exact HB.out | apply below_alloc | apply pw_below_drewN | apply below_drew1) | exact HB.out))); (case aS => first | (simp; done) | (simp; omega) | omega); (case aL => omega); intro v1 w1 ho hb hg hat; obtain ⟨⟨A1_, c1_, rfl⟩, hb1, hcell1, hfree1⟩ := box_after0 Hbox.out HR.out hg ho; have Hb1 := Aside0.mk hb1; have Ho := Aside0.mk ho; have Hb := Aside0.mk hb; clear hb1 ho hb hg hat)
    first | go_end0 | ((try simp only [Exit.inBlock, Exit.then]); refine bodyPost_ret (results_none rfl _ _ _) rfl ?_)
    have Ho2 := Ho.out
    rw [List.length_append, List.length_singleton] at Ho2
    exact ⟨_, rfl, heap_setCell_at Hb1.out, Kd.R_far (p := ⟨B, 0, none⟩) Ho2 (fun _ hk => hk) _, Hb.out.setCell hbase _⟩
/-- What strings.Join makes of the elements, with ", " between them. -/
def joinL (l : List ByteArray) : List UInt8 := Go.Lib.join (l.map fun x => x.data.toList) [44, 32]
theorem join_R {w : World} {base : Nat} {v : Value} {xs : List ByteArray} {ok : Nat → Prop} (hR : Kd.R Kd.string 9 w base ok v xs) (h1 : xs.length ≤ 140737488355328) (h2 : (joinL xs).length ≤ 140737488355328) :
    Calls Tryd.prog 22 #[v, .string ⟨#[44, 32]⟩] w fun e w' => e = .returned (.string ⟨(joinL xs).toArray⟩) ∧ Below w.heap.size w w' := by
  obtain ⟨inner, ho⟩ := Kd.R_own hR
  rcases ho.2 with ⟨rfl, h0⟩ | ⟨g, cap, cur, rfl, hg, hh, hc, hm, hs, ht⟩
  · obtain rfl : xs = [] := List.length_eq_zero_iff.mp h0
    refine (Tryd.strings_Join_none none 0 ⟨#[44, 32]⟩ w).mono ?_
    rintro e w' ⟨rfl, rfl⟩
    exact ⟨rfl, Below.refl _ _⟩
  · refine (Tryd.strings_Join g 0 cap xs ⟨#[44, 32]⟩ w ?_ ?_ h1 hc h2).mono ?_
    · intro j x hj
      have hlt : j < xs.length := by
        by_cases hq : j < xs.length
        · exact hq
        · rw [List.getElem?_eq_none (by omega)] at hj; cases hj
      have hcell := (Kd.R_cell ByteArray.empty hR (j : Int) (by omega) (by omega)).1
      have e1 : rdOf ByteArray.empty xs (j : Int) = x := by
        unfold rdOf
        simp only [Int.toNat_natCast, List.getD_eq_getElem?_getD, hj, Option.getD_some]
      rw [e1] at hcell
      simpa using hcell
    · exact blk_lt hh
    · rintro e w' ⟨rfl, hb⟩
      exact ⟨rfl, hb⟩
def dirBox (b0 b1 b2 b3 b4 b5 : Bool) (n6 n7 n8 n9 : Int) : Array Value := #[.bool b0, .bool b1, .bool b2, .bool b3, .bool b4, .bool b5, .int .i64 n6, .int .i64 n7, .int .i64 n8, .int .i64 n9]
def addF (xs : List ByteArray) (b : Bool) (nm : ByteArray) : List ByteArray := if b = true then xs ++ [nm] else xs
theorem addF_length (xs : List ByteArray) (b : Bool) (nm : ByteArray) : (addF xs b nm).length ≤ xs.length + 1 := by unfold addF; split <;> simp
def dl0 (b0 b1 b2 b3 b4 b5 : Bool) (n6 n7 n8 n9 : Int) : List ByteArray := addF ([] : List ByteArray) b0 (⟨#[110, 111, 45, 115, 116, 111, 114, 101]⟩ : ByteArray)
def dl1 (b0 b1 b2 b3 b4 b5 : Bool) (n6 n7 n8 n9 : Int) : List ByteArray := addF (dl0 b0 b1 b2 b3 b4 b5 n6 n7 n8 n9) b1 (⟨#[110, 111, 45, 99, 97, 99, 104, 101]⟩ : ByteArray)
def dl2 (b0 b1 b2 b3 b4 b5 : Bool) (n6 n7 n8 n9 : Int) : List ByteArray := addF (dl1 b0 b1 b2 b3 b4 b5 n6 n7 n8 n9) b2 (⟨#[112, 114, 105, 118, 97, 116, 101]⟩ : ByteArray)
def dl3 (b0 b1 b2 b3 b4 b5 : Bool) (n6 n7 n8 n9 : Int) : List ByteArray := addF (dl2 b0 b1 b2 b3 b4 b5 n6 n7 n8 n9) b3 (⟨#[112, 117, 98, 108, 105, 99]⟩ : ByteArray)
def dl4 (b0 b1 b2 b3 b4 b5 : Bool) (n6 n7 n8 n9 : Int) : List ByteArray := addF (dl3 b0 b1 b2 b3 b4 b5 n6 n7 n8 n9) b4 (⟨#[109, 117, 115, 116, 45, 114, 101, 118, 97, 108, 105, 100, 97, 116, 101]⟩ : ByteArray)
def dl5 (b0 b1 b2 b3 b4 b5 : Bool) (n6 n7 n8 n9 : Int) : List ByteArray := addF (dl4 b0 b1 b2 b3 b4 b5 n6 n7 n8 n9) b5 (⟨#[111, 110, 108, 121, 45, 105, 102, 45, 99, 97, 99, 104, 101, 100]⟩ : ByteArray)
def dl6 (b0 b1 b2 b3 b4 b5 : Bool) (n6 n7 n8 n9 : Int) : List ByteArray := addF (dl5 b0 b1 b2 b3 b4 b5 n6 n7 n8 n9) (decide (0 ≤ n6)) ((⟨#[109, 97, 120, 45, 97, 103, 101, 61]⟩ : ByteArray) ++ decT n6)
def dl7 (b0 b1 b2 b3 b4 b5 : Bool) (n6 n7 n8 n9 : Int) : List ByteArray := addF (dl6 b0 b1 b2 b3 b4 b5 n6 n7 n8 n9) (decide (0 ≤ n7)) ((⟨#[115, 45, 109, 97, 120, 97, 103, 101, 61]⟩ : ByteArray) ++ decT n7)
def dl8 (b0 b1 b2 b3 b4 b5 : Bool) (n6 n7 n8 n9 : Int) : List ByteArray := addF (dl7 b0 b1 b2 b3 b4 b5 n6 n7 n8 n9) (decide (0 ≤ n8)) ((⟨#[109, 97, 120, 45, 115, 116, 97, 108, 101, 61]⟩ : ByteArray) ++ decT n8)
def dl9 (b0 b1 b2 b3 b4 b5 : Bool) (n6 n7 n8 n9 : Int) : List ByteArray := addF (dl8 b0 b1 b2 b3 b4 b5 n6 n7 n8 n9) (decide (0 ≤ n9)) ((⟨#[109, 105, 110, 45, 102, 114, 101, 115, 104, 61]⟩ : ByteArray) ++ decT n9)
theorem dl0_length (b0 b1 b2 b3 b4 b5 : Bool) (n6 n7 n8 n9 : Int) : (dl0 b0 b1 b2 b3 b4 b5 n6 n7 n8 n9).length ≤ 1 := by unfold dl0; exact Nat.le_trans (addF_length _ _ _) (Nat.succ_le_succ (Nat.le_refl _))
theorem dl1_length (b0 b1 b2 b3 b4 b5 : Bool) (n6 n7 n8 n9 : Int) : (dl1 b0 b1 b2 b3 b4 b5 n6 n7 n8 n9).length ≤ 2 := by unfold dl1; exact Nat.le_trans (addF_length _ _ _) (Nat.succ_le_succ (dl0_length b0 b1 b2 b3 b4 b5 n6 n7 n8 n9))
theorem dl2_length (b0 b1 b2 b3 b4 b5 : Bool) (n6 n7 n8 n9 : Int) : (dl2 b0 b1 b2 b3 b4 b5 n6 n7 n8 n9).length ≤ 3 := by unfold dl2; exact Nat.le_trans (addF_length _ _ _) (Nat.succ_le_succ (dl1_length b0 b1 b2 b3 b4 b5 n6 n7 n8 n9))
theorem dl3_length (b0 b1 b2 b3 b4 b5 : Bool) (n6 n7 n8 n9 : Int) : (dl3 b0 b1 b2 b3 b4 b5 n6 n7 n8 n9).length ≤ 4 := by unfold dl3; exact Nat.le_trans (addF_length _ _ _) (Nat.succ_le_succ (dl2_length b0 b1 b2 b3 b4 b5 n6 n7 n8 n9))
theorem dl4_length (b0 b1 b2 b3 b4 b5 : Bool) (n6 n7 n8 n9 : Int) : (dl4 b0 b1 b2 b3 b4 b5 n6 n7 n8 n9).length ≤ 5 := by unfold dl4; exact Nat.le_trans (addF_length _ _ _) (Nat.succ_le_succ (dl3_length b0 b1 b2 b3 b4 b5 n6 n7 n8 n9))
theorem dl5_length (b0 b1 b2 b3 b4 b5 : Bool) (n6 n7 n8 n9 : Int) : (dl5 b0 b1 b2 b3 b4 b5 n6 n7 n8 n9).length ≤ 6 := by unfold dl5; exact Nat.le_trans (addF_length _ _ _) (Nat.succ_le_succ (dl4_length b0 b1 b2 b3 b4 b5 n6 n7 n8 n9))
theorem dl6_length (b0 b1 b2 b3 b4 b5 : Bool) (n6 n7 n8 n9 : Int) : (dl6 b0 b1 b2 b3 b4 b5 n6 n7 n8 n9).length ≤ 7 := by unfold dl6; exact Nat.le_trans (addF_length _ _ _) (Nat.succ_le_succ (dl5_length b0 b1 b2 b3 b4 b5 n6 n7 n8 n9))
theorem dl7_length (b0 b1 b2 b3 b4 b5 : Bool) (n6 n7 n8 n9 : Int) : (dl7 b0 b1 b2 b3 b4 b5 n6 n7 n8 n9).length ≤ 8 := by unfold dl7; exact Nat.le_trans (addF_length _ _ _) (Nat.succ_le_succ (dl6_length b0 b1 b2 b3 b4 b5 n6 n7 n8 n9))
theorem dl8_length (b0 b1 b2 b3 b4 b5 : Bool) (n6 n7 n8 n9 : Int) : (dl8 b0 b1 b2 b3 b4 b5 n6 n7 n8 n9).length ≤ 9 := by unfold dl8; exact Nat.le_trans (addF_length _ _ _) (Nat.succ_le_succ (dl7_length b0 b1 b2 b3 b4 b5 n6 n7 n8 n9))
theorem dl9_length (b0 b1 b2 b3 b4 b5 : Bool) (n6 n7 n8 n9 : Int) : (dl9 b0 b1 b2 b3 b4 b5 n6 n7 n8 n9).length ≤ 10 := by unfold dl9; exact Nat.le_trans (addF_length _ _ _) (Nat.succ_le_succ (dl8_length b0 b1 b2 b3 b4 b5 n6 n7 n8 n9))
structure TInv (w1 : World) (B : Nat) (cs : Array Value) (xs : List ByteArray) (v : Value) (W : World) : Prop where
  dbox : W.heap[w1.heap.size]? = some (.cells cs 25 (0, 0))
  box : W.heap[B]? = some (.cells #[v] 43 (0, 0))
  rows : Kd.R Kd.string 9 W (w1.heap.size + 1) (fun k_ => k_ ≠ B) v xs
  bel : Below (w1.heap.size + 1) (w1.alloc (.cells cs 25)) W
  far : w1.heap.size + 1 ≤ B
  tab : Tab10 w1
theorem TInv.tabs {w1 : World} {B : Nat} {cs : Array Value} {xs : List ByteArray} {v : Value} {W : World} (h : TInv w1 B cs xs v W) : Tab10 W := by
  have h1 : Tab10 (w1.alloc (.cells cs 25)) := tab_below h.tab (below_alloc (Below.refl w1.heap.size w1) _) (tab_lt h.tab)
  exact tab_below h1 h.bel (fun g hg => Nat.lt_succ_of_lt (tab_lt h.tab g hg))
theorem TInv.below {w1 : World} {B : Nat} {cs : Array Value} {xs : List ByteArray} {v : Value} {W W' : World} (h : TInv w1 B cs xs v W) (hb : Below W.heap.size W W') : TInv w1 B cs xs v W' :=
  ⟨blk_below h.dbox hb, blk_below h.box hb, Kd.R_below h.rows hb, below_then h.bel (Nat.le_trans h.far (Nat.le_of_lt (blk_lt h.box))) hb, h.far, h.tab⟩
theorem TInv.flag {w1 : World} {B : Nat} {cs : Array Value} {xs : List ByteArray} {v : Value} {W : World} (h : TInv w1 B cs xs v W) (b : Bool) (nm : ByteArray) (hl : xs.length ≤ 100) :
    Calls Tryd.prog 20 #[.bool b, .string nm, .pointer (some ⟨B, 0, none⟩)] W fun e w' => ∃ v', e = .returned (.tuple #[]) ∧ TInv w1 B cs (addF xs b nm) v' w' := by
  refine (flag_calls b nm B v xs W (w1.alloc (.cells cs 25)) (w1.heap.size + 1) h.box h.rows h.bel h.far (by omega)).mono ?_
  rintro e w' ⟨v', rfl, h1, h2, h3⟩
  refine ⟨v', rfl, ?_, h1, h2, h3, h.far, h.tab⟩
  rw [h3.block w1.heap.size (Nat.lt_succ_self _)]
  exact blk_new w1 _
theorem TInv.cell {w1 : World} {B : Nat} {cs : Array Value} {xs : List ByteArray} {v : Value} {W : World} (h : TInv w1 B cs xs v W) (j : Nat) : W.cell? ⟨w1.heap.size, j, none⟩ = cs[j]? := blk_cell h.dbox j
def impl_DirsText.f (b0 b1 b2 b3 b4 b5 : Bool) (n6 n7 n8 n9 : Int) : Option ByteArray := (impl_DirsOk.f b0 b1 b2 b3 b4 b5 n6 n7 n8 n9).bind fun ok => if ok = true then (if (joinL (dl9 b0 b1 b2 b3 b4 b5 n6 n7 n8 n9)).length ≤ 140737488355328 ∧ ((decT n6).size ≤ 1000 ∧ (decT n7).size ≤ 1000 ∧ (decT n8).size ≤ 1000 ∧ (decT n9).size ≤ 1000) then some ⟨(joinL (dl9 b0 b1 b2 b3 b4 b5 n6 n7 n8 n9)).toArray⟩ else none) else some ⟨#[]⟩
theorem goesC_ {P : Program} {ops : Array Oper} {Q : Exit → Act → World → Prop} {oi : Oper} {N : Option Tmp} {a : Act} {w : World} {K : Act → World → Prop} {f : FuncId} {fn : Func} {t : Tmp} {as_ : Array Operand} {ts : Array TypeId} (hf : P.funcs[f]? = some fn) (hname : (fn.name == "runtime.NumGoroutine") = false) (hb : fn.body.isSome = true) (caps args : Array Value)
    (hw : Region.wanted oi (yielded ops a.tmps) = true) (hN : oi.dst = N) (hop : oi.op = .call { callee := .value (.tmp t), args := as_, argTypes := ts }) (hv : a.eval (.tmp t) = .func (.func f) #[] caps) (hargs : as_.map a.eval ++ caps = args)
    (h : Calls P f args w fun e w' => ∃ v, e = .returned v ∧ K (a.put N v) w') : if Region.wanted oi (yielded ops a.tmps) = true then Oper.wp P oi a w K Q else K (a.put N undef) w := by
  refine call_ f args hw hN ?_ h
  have he := enters_ hf hname hb args w
  unfold execOp
  simp [hop, resolve, Deferred.ofValue, invoke, hv, hargs, he]
def dirT : Bool × List (List Nat × List Nat) := (true, [([], []), ([], []), ([1], [1]), ([2], [2]), ([], []), ([4], [4]), ([5], [5]), ([6], [6]), ([0, 3, 7, 6], [0, 3, 7])])
def dirB : List Nat := [0, 0, 2, 6, 0, 16, 48, 112, 255]
theorem dir_bits : waitsOk dirT.2 dirB = true := by kernel_rfl
theorem dir_tab11 : rtab .any (opsOf Tryd.f8 11) = dirT := by kernel_rfl
theorem dir_tab12 : rtab .any (opsOf Tryd.f8 12) = dirT := by kernel_rfl
theorem dir_tab13 : rtab .any (opsOf Tryd.f8 13) = dirT := by kernel_rfl
theorem dir_tab14 : rtab .any (opsOf Tryd.f8 14) = dirT := by kernel_rfl
set_option maxHeartbeats 8000000 in
set_option maxRecDepth 100000 in
theorem impl_DirsText.calls (b0 b1 b2 b3 b4 b5 : Bool) (n6 n7 n8 n9 : Int) (r : ByteArray) (w : World) (ht : Tab10 w) (h : impl_DirsText.f b0 b1 b2 b3 b4 b5 n6 n7 n8 n9 = some r) :
    Calls Tryd.prog 8 #[.agg #[.bool b0, .bool b1, .bool b2, .bool b3, .bool b4, .bool b5, .int .i64 n6, .int .i64 n7, .int .i64 n8, .int .i64 n9]] w fun e w' => e = .returned (.string r) ∧ Below w.heap.size w w' := by
  have hu25 := Tryd.underlying25
  have HT := Aside0.mk ht
  clear ht
  obtain ⟨ok, A10, H⟩ := Option.bind_eq_some_iff.mp h
  have A1 := Aside0.mk A10
  clear h A10
  go_enter Tryd.func8, Tryd.ntmps8
  have hc0 := blk_new w (Obj.cells (dirBox b0 b1 b2 b3 b4 b5 n6 n7 n8 n9) 25)
  go_wp2_with fail
  refine (impl_DirsOk.calls b0 b1 b2 b3 b4 b5 n6 n7 n8 n9 ok _ A1.out).mono ?_
  rintro e w2 ⟨rfl, hb⟩
  dsimp only
  have hb0 : Below (w.alloc (.cells (dirBox b0 b1 b2 b3 b4 b5 n6 n7 n8 n9) 25)).heap.size (w.alloc (.cells (dirBox b0 b1 b2 b3 b4 b5 n6 n7 n8 n9) 25)) w2 := hb
  have hsz : (w.alloc (.cells (dirBox b0 b1 b2 b3 b4 b5 n6 n7 n8 n9) 25)).heap.size = w.heap.size + 1 := by simp
  have HB2 := Aside0.mk hb0
  clear hb hb0 hc0
  cases ok with
  | false =>
    obtain rfl : ⟨#[]⟩ = r := by simpa using H
    clear H
    go_wp2
    go_ret
    exact ⟨rfl, below_step (below_alloc (Below.refl _ _) _) HB2.out⟩
  | true =>
    rw [if_pos rfl] at H
    by_cases hq : (joinL (dl9 b0 b1 b2 b3 b4 b5 n6 n7 n8 n9)).length ≤ 140737488355328 ∧ ((decT n6).size ≤ 1000 ∧ (decT n7).size ≤ 1000 ∧ (decT n8).size ≤ 1000 ∧ (decT n9).size ≤ 1000)
    case neg => rw [if_neg hq] at H; cases H
    rw [if_pos hq] at H
    obtain rfl := Option.some.inj H
    clear H
    have Q := Aside0.mk hq
    clear hq
    have hd0 : w2.heap[w.heap.size]? = some (.cells (dirBox b0 b1 b2 b3 b4 b5 n6 n7 n8 n9) 25 (0, 0)) := (HB2.out.block w.heap.size (by rw [hsz]; exact Nat.lt_succ_self _)).trans (blk_new w _)
    have hs2 : w.heap.size + 1 ≤ w2.heap.size := by have := HB2.out.size; omega
    have I : TInv w w2.heap.size (dirBox b0 b1 b2 b3 b4 b5 n6 n7 n8 n9) [] (.slice none 0 0) (w2.alloc (.cells #[.slice none 0 0] 43)) :=
      ⟨blk_below hd0 (below_alloc (Below.refl _ _) _), blk_new w2 _, Kd.R_nil _ _ _ _ _, (hsz ▸ HB2.out).alloc hs2 _, hs2, HT.out⟩
    have I := Aside0.mk I
    have hc : (w2.alloc (.cells #[.slice none 0 0] 43)).cell? ⟨w.heap.size, 0, none⟩ = some (.bool b0) := I.out.cell 0
    go_wp2_with fail
    refine (I.out.flag b0 (⟨#[110, 111, 45, 115, 116, 111, 114, 101]⟩ : ByteArray) (Nat.le_trans (Nat.le_refl 0) (by decide))).mono ?_
    rintro e x0 ⟨v0, rfl, hi⟩
    dsimp only
    clear hc
    have I := Aside0.mk hi
    clear hi
    have hc : x0.cell? ⟨w.heap.size, 1, none⟩ = some (.bool b1) := I.out.cell 1
    go_wp2_with fail
    refine (I.out.flag b1 (⟨#[110, 111, 45, 99, 97, 99, 104, 101]⟩ : ByteArray) (Nat.le_trans (dl0_length b0 b1 b2 b3 b4 b5 n6 n7 n8 n9) (by decide))).mono ?_
    rintro e x1 ⟨v1, rfl, hi⟩
    dsimp only
    clear hc
    have I := Aside0.mk hi
    clear hi
    have hc : x1.cell? ⟨w.heap.size, 2, none⟩ = some (.bool b2) := I.out.cell 2
    go_wp2_with fail
    refine (I.out.flag b2 (⟨#[112, 114, 105, 118, 97, 116, 101]⟩ : ByteArray) (Nat.le_trans (dl1_length b0 b1 b2 b3 b4 b5 n6 n7 n8 n9) (by decide))).mono ?_
    rintro e x2 ⟨v2, rfl, hi⟩
    dsimp only
    clear hc
    have I := Aside0.mk hi
    clear hi
    have hc : x2.cell? ⟨w.heap.size, 3, none⟩ = some (.bool b3) := I.out.cell 3
    go_wp2_with fail
    refine (I.out.flag b3 (⟨#[112, 117, 98, 108, 105, 99]⟩ : ByteArray) (Nat.le_trans (dl2_length b0 b1 b2 b3 b4 b5 n6 n7 n8 n9) (by decide))).mono ?_
    rintro e x3 ⟨v3, rfl, hi⟩
    dsimp only
    clear hc
    have I := Aside0.mk hi
    clear hi
    have hc : x3.cell? ⟨w.heap.size, 4, none⟩ = some (.bool b4) := I.out.cell 4
    go_wp2_with fail
    refine (I.out.flag b4 (⟨#[109, 117, 115, 116, 45, 114, 101, 118, 97, 108, 105, 100, 97, 116, 101]⟩ : ByteArray) (Nat.le_trans (dl3_length b0 b1 b2 b3 b4 b5 n6 n7 n8 n9) (by decide))).mono ?_
    rintro e x4 ⟨v4, rfl, hi⟩
    dsimp only
    clear hc
    have I := Aside0.mk hi
    clear hi
    have hc : x4.cell? ⟨w.heap.size, 5, none⟩ = some (.bool b5) := I.out.cell 5
    go_wp2_with fail
    refine (I.out.flag b5 (⟨#[111, 110, 108, 121, 45, 105, 102, 45, 99, 97, 99, 104, 101, 100]⟩ : ByteArray) (Nat.le_trans (dl4_length b0 b1 b2 b3 b4 b5 n6 n7 n8 n9) (by decide))).mono ?_
    rintro e x5 ⟨v5, rfl, hi⟩
    dsimp only
    clear hc
    have I := Aside0.mk hi
    clear hi
    go_wp2_with fail
    have hc : x5.cell? ⟨w.heap.size, 6, none⟩ = some (.int .i64 n6) := I.out.cell 6
    refine start_ (n := 9) (S := fun w' => w'.cell? ⟨w.heap.size, 6, none⟩ = some (.int .i64 n6)) (ds := []) #[false, false, false, false, false, false, false, false, false] (by kernel_rfl) rfl rfl hc (fun hHeld => ?_); refine with_tabW dir_tab11 dir_bits (fun HT_ HW_ => ?_)
    clear hc
    have J := Aside0.mk (show TInv w w2.heap.size _ _ _ x5.drew from I.out.below (below_drew (Below.refl _ _)))
    clear I
    generalize x5.drew = y6 at J hHeld ⊢
    refine pure_ (i := 0) (N := some 33) (v := ?_) (a' := ?_) #[true, false, false, false, false, false, false, false, false] rfl rfl (any_of HT_.out (by kernel_rfl)) (fun _ _ _ h => h) (Or.inl ⟨by rfl, ?_⟩) ?_ ?_
    rotate_left
    · intro w'
      go_simp
      with_reducible rfl
    rotate_left
    · simp only [Act.put, List.setIfInBounds_toArray, List.set_cons_zero, List.set_cons_succ, i64_w, i32_w]
      rfl
    refine pure_ (i := 1) (N := some 34) (v := ?_) (a' := ?_) #[true, true, false, false, false, false, false, false, false] rfl rfl (any_of HT_.out (by kernel_rfl)) (fun _ _ _ h => h) (Or.inl ⟨by rfl, ?_⟩) ?_ ?_
    rotate_left
    · intro w'
      go_simp
      with_reducible rfl
    rotate_left
    · simp only [Act.put, List.setIfInBounds_toArray, List.set_cons_zero, List.set_cons_succ, i64_w, i32_w]
      rfl
    refine take_ (i := 2) (N := some 35) (v := ?_) (a' := ?_) #[true, true, true, false, false, false, false, false, false] rfl rfl (take_ofW HT_.out HW_.out (by kernel_rfl)) (fun _ _ _ h => h) (Or.inl ⟨by rfl, ?_⟩) hHeld ?_ ?_
    rotate_left
    · rintro w' s0
      go_simp
      with_reducible rfl
    rotate_left
    · simp only [Act.put, List.setIfInBounds_toArray, List.set_cons_zero, List.set_cons_succ, i64_w, i32_w]
      rfl
    refine pure_ (i := 3) (N := some 36) (v := ?_) (a' := ?_) #[true, true, true, true, false, false, false, false, false] rfl rfl (any_of HT_.out (by kernel_rfl)) (fun _ _ _ h => h) (Or.inl ⟨by rfl, ?_⟩) ?_ ?_
    rotate_left
    · intro w'
      go_simp
      with_reducible rfl
    rotate_left
    · simp only [Act.put, List.setIfInBounds_toArray, List.set_cons_zero, List.set_cons_succ, i64_w, i32_w]
      rfl
    refine pure_ (i := 4) (N := some 37) (v := ?_) (a' := ?_) #[true, true, true, true, true, false, false, false, false] rfl rfl (any_of HT_.out (by kernel_rfl)) (fun _ _ _ h => h) (Or.inl ⟨by rfl, ?_⟩) ?_ ?_
    rotate_left
    · intro w'
      go_simp
      with_reducible rfl
    rotate_left
    · simp only [Act.put, List.setIfInBounds_toArray, List.set_cons_zero, List.set_cons_succ, i64_w, i32_w]
      rfl
    refine take_ (i := 5) (N := some 38) (v := ?_) (a' := ?_) #[true, true, true, true, true, true, false, false, false] rfl rfl (take_ofW HT_.out HW_.out (by kernel_rfl)) (fun _ _ _ h => h) (Or.inl ⟨by rfl, ?_⟩) hHeld ?_ ?_
    rotate_left
    · rintro w' s0
      go_simp
      with_reducible rfl
    rotate_left
    · simp only [Act.put, List.setIfInBounds_toArray, List.set_cons_zero, List.set_cons_succ, i64_w, i32_w]
      rfl
    refine one_ (i := 6) (N := some 39) #[true, true, true, true, true, true, true, false, false] rfl rfl (one_of HT_.out (by kernel_rfl)) (by decide) (fun K hK => ?_)
    refine goes_ Tryd.func21 (by kernel_rfl) rfl #[.int .i64 n6] (by rfl) rfl rfl (by (try simp only [List.map_toArray, List.map_cons, List.map_nil]); first | done | rfl) ?_
    refine (decT_calls n6 _ J.out.tabs).mono ?_
    rintro e z6 ⟨rfl, hb⟩
    refine ⟨_, rfl, ?_⟩
    have I := Aside0.mk (J.out.below hb)
    clear J hb hHeld
    refine hK.out _ _ (I.out.cell 6) (fun hHeld => ?_)
    clear hK K
    refine norm_ (a' := ?_) ?_ ?_
    rotate_left
    · show Act.put _ (some 39) _ = _
      simp only [Act.put, List.setIfInBounds_toArray, List.set_cons_zero, List.set_cons_succ, i64_w, i32_w]
      rfl
    have hsz : (9223372036854775807 < 8 + (decT n6).size) = False := eq_false (by have h1 := Q.out.2; omega)
    refine pure_ (i := 7) (N := some 40) (v := ?_) (a' := ?_) #[true, true, true, true, true, true, true, true, false] rfl rfl (any_of HT_.out (by kernel_rfl)) (fun _ _ _ h => h) (Or.inl ⟨by rfl, ?_⟩) ?_ ?_
    rotate_left
    · intro w'
      go_simp
      with_reducible rfl
    rotate_left
    · simp only [Act.put, List.setIfInBounds_toArray, List.set_cons_zero, List.set_cons_succ, i64_w, i32_w]
      rfl
    refine one_ (i := 8) (N := some 41) #[true, true, true, true, true, true, true, true, true] rfl rfl (one_of HT_.out (by kernel_rfl)) (by decide) (fun K hK => ?_)
    refine goesC_ Tryd.func20 (by kernel_rfl) rfl #[.pointer (some ⟨w2.heap.size, 0, none⟩)] #[.bool (decide (0 ≤ n6)), .string ((⟨#[109, 97, 120, 45, 97, 103, 101, 61]⟩ : ByteArray) ++ decT n6), .pointer (some ⟨w2.heap.size, 0, none⟩)] (by rfl) rfl rfl rfl (by (try simp only [List.map_toArray, List.map_cons, List.map_nil]); first | done | rfl) ?_
    refine (I.out.flag _ _ (Nat.le_trans (dl5_length b0 b1 b2 b3 b4 b5 n6 n7 n8 n9) (by decide))).mono ?_
    rintro e x6 ⟨v6, rfl, hi⟩
    refine ⟨_, rfl, ?_⟩
    have J := Aside0.mk hi
    clear I hi hHeld hsz
    refine hK.out _ _ (J.out.cell 6) (fun hHeld => ?_)
    clear hK K
    refine norm_ (a' := ?_) ?_ ?_
    rotate_left
    · show Act.put _ (some 41) _ = _
      simp only [Act.put, List.setIfInBounds_toArray, List.set_cons_zero, List.set_cons_succ, i64_w, i32_w]
      rfl
    refine done_ (done_of HT_.out (by kernel_rfl)) ?_
    clear HT_ HW_ hHeld
    have I := J
    clear J
    go_wp2_with fail
    have hc : x6.cell? ⟨w.heap.size, 7, none⟩ = some (.int .i64 n7) := I.out.cell 7
    refine start_ (n := 9) (S := fun w' => w'.cell? ⟨w.heap.size, 7, none⟩ = some (.int .i64 n7)) (ds := []) #[false, false, false, false, false, false, false, false, false] (by kernel_rfl) rfl rfl hc (fun hHeld => ?_); refine with_tabW dir_tab12 dir_bits (fun HT_ HW_ => ?_)
    clear hc
    have J := Aside0.mk (show TInv w w2.heap.size _ _ _ x6.drew from I.out.below (below_drew (Below.refl _ _)))
    clear I
    generalize x6.drew = y7 at J hHeld ⊢
    refine pure_ (i := 0) (N := some 42) (v := ?_) (a' := ?_) #[true, false, false, false, false, false, false, false, false] rfl rfl (any_of HT_.out (by kernel_rfl)) (fun _ _ _ h => h) (Or.inl ⟨by rfl, ?_⟩) ?_ ?_
    rotate_left
    · intro w'
      go_simp
      with_reducible rfl
    rotate_left
    · simp only [Act.put, List.setIfInBounds_toArray, List.set_cons_zero, List.set_cons_succ, i64_w, i32_w]
      rfl
    refine pure_ (i := 1) (N := some 43) (v := ?_) (a' := ?_) #[true, true, false, false, false, false, false, false, false] rfl rfl (any_of HT_.out (by kernel_rfl)) (fun _ _ _ h => h) (Or.inl ⟨by rfl, ?_⟩) ?_ ?_
    rotate_left
    · intro w'
      go_simp
      with_reducible rfl
    rotate_left
    · simp only [Act.put, List.setIfInBounds_toArray, List.set_cons_zero, List.set_cons_succ, i64_w, i32_w]
      rfl
    refine take_ (i := 2) (N := some 44) (v := ?_) (a' := ?_) #[true, true, true, false, false, false, false, false, false] rfl rfl (take_ofW HT_.out HW_.out (by kernel_rfl)) (fun _ _ _ h => h) (Or.inl ⟨by rfl, ?_⟩) hHeld ?_ ?_
    rotate_left
    · rintro w' s0
      go_simp
      with_reducible rfl
    rotate_left
    · simp only [Act.put, List.setIfInBounds_toArray, List.set_cons_zero, List.set_cons_succ, i64_w, i32_w]
      rfl
    refine pure_ (i := 3) (N := some 45) (v := ?_) (a' := ?_) #[true, true, true, true, false, false, false, false, false] rfl rfl (any_of HT_.out (by kernel_rfl)) (fun _ _ _ h => h) (Or.inl ⟨by rfl, ?_⟩) ?_ ?_
    rotate_left
    · intro w'
      go_simp
      with_reducible rfl
    rotate_left
    · simp only [Act.put, List.setIfInBounds_toArray, List.set_cons_zero, List.set_cons_succ, i64_w, i32_w]
      rfl
    refine pure_ (i := 4) (N := some 46) (v := ?_) (a' := ?_) #[true, true, true, true, true, false, false, false, false] rfl rfl (any_of HT_.out (by kernel_rfl)) (fun _ _ _ h => h) (Or.inl ⟨by rfl, ?_⟩) ?_ ?_
    rotate_left
    · intro w'
      go_simp
      with_reducible rfl
    rotate_left
    · simp only [Act.put, List.setIfInBounds_toArray, List.set_cons_zero, List.set_cons_succ, i64_w, i32_w]
      rfl
    refine take_ (i := 5) (N := some 47) (v := ?_) (a' := ?_) #[true, true, true, true, true, true, false, false, false] rfl rfl (take_ofW HT_.out HW_.out (by kernel_rfl)) (fun _ _ _ h => h) (Or.inl ⟨by rfl, ?_⟩) hHeld ?_ ?_
    rotate_left
    · rintro w' s0
      go_simp
      with_reducible rfl
    rotate_left
    · simp only [Act.put, List.setIfInBounds_toArray, List.set_cons_zero, List.set_cons_succ, i64_w, i32_w]
      rfl
    refine one_ (i := 6) (N := some 48) #[true, true, true, true, true, true, true, false, false] rfl rfl (one_of HT_.out (by kernel_rfl)) (by decide) (fun K hK => ?_)
    refine goes_ Tryd.func21 (by kernel_rfl) rfl #[.int .i64 n7] (by rfl) rfl rfl (by (try simp only [List.map_toArray, List.map_cons, List.map_nil]); first | done | rfl) ?_
    refine (decT_calls n7 _ J.out.tabs).mono ?_
    rintro e z7 ⟨rfl, hb⟩
    refine ⟨_, rfl, ?_⟩
    have I := Aside0.mk (J.out.below hb)
    clear J hb hHeld
    refine hK.out _ _ (I.out.cell 7) (fun hHeld => ?_)
    clear hK K
    refine norm_ (a' := ?_) ?_ ?_
    rotate_left
    · show Act.put _ (some 48) _ = _
      simp only [Act.put, List.setIfInBounds_toArray, List.set_cons_zero, List.set_cons_succ, i64_w, i32_w]
      rfl
    have hsz : (9223372036854775807 < 9 + (decT n7).size) = False := eq_false (by have h1 := Q.out.2; omega)
    refine pure_ (i := 7) (N := some 49) (v := ?_) (a' := ?_) #[true, true, true, true, true, true, true, true, false] rfl rfl (any_of HT_.out (by kernel_rfl)) (fun _ _ _ h => h) (Or.inl ⟨by rfl, ?_⟩) ?_ ?_
    rotate_left
    · intro w'
      go_simp
      with_reducible rfl
    rotate_left
    · simp only [Act.put, List.setIfInBounds_toArray, List.set_cons_zero, List.set_cons_succ, i64_w, i32_w]
      rfl
    refine one_ (i := 8) (N := some 50) #[true, true, true, true, true, true, true, true, true] rfl rfl (one_of HT_.out (by kernel_rfl)) (by decide) (fun K hK => ?_)
    refine goesC_ Tryd.func20 (by kernel_rfl) rfl #[.pointer (some ⟨w2.heap.size, 0, none⟩)] #[.bool (decide (0 ≤ n7)), .string ((⟨#[115, 45, 109, 97, 120, 97, 103, 101, 61]⟩ : ByteArray) ++ decT n7), .pointer (some ⟨w2.heap.size, 0, none⟩)] (by rfl) rfl rfl rfl (by (try simp only [List.map_toArray, List.map_cons, List.map_nil]); first | done | rfl) ?_
    refine (I.out.flag _ _ (Nat.le_trans (dl6_length b0 b1 b2 b3 b4 b5 n6 n7 n8 n9) (by decide))).mono ?_
    rintro e x7 ⟨v7, rfl, hi⟩
    refine ⟨_, rfl, ?_⟩
    have J := Aside0.mk hi
    clear I hi hHeld hsz
    refine hK.out _ _ (J.out.cell 7) (fun hHeld => ?_)
    clear hK K
    refine norm_ (a' := ?_) ?_ ?_
    rotate_left
    · show Act.put _ (some 50) _ = _
      simp only [Act.put, List.setIfInBounds_toArray, List.set_cons_zero, List.set_cons_succ, i64_w, i32_w]
      rfl
    refine done_ (done_of HT_.out (by kernel_rfl)) ?_
    clear HT_ HW_ hHeld
    have I := J
    clear J
    go_wp2_with fail
    have hc : x7.cell? ⟨w.heap.size, 8, none⟩ = some (.int .i64 n8) := I.out.cell 8
    refine start_ (n := 9) (S := fun w' => w'.cell? ⟨w.heap.size, 8, none⟩ = some (.int .i64 n8)) (ds := []) #[false, false, false, false, false, false, false, false, false] (by kernel_rfl) rfl rfl hc (fun hHeld => ?_); refine with_tabW dir_tab13 dir_bits (fun HT_ HW_ => ?_)
    clear hc
    have J := Aside0.mk (show TInv w w2.heap.size _ _ _ x7.drew from I.out.below (below_drew (Below.refl _ _)))
    clear I
    generalize x7.drew = y8 at J hHeld ⊢
    refine pure_ (i := 0) (N := some 51) (v := ?_) (a' := ?_) #[true, false, false, false, false, false, false, false, false] rfl rfl (any_of HT_.out (by kernel_rfl)) (fun _ _ _ h => h) (Or.inl ⟨by rfl, ?_⟩) ?_ ?_
    rotate_left
    · intro w'
      go_simp
      with_reducible rfl
    rotate_left
    · simp only [Act.put, List.setIfInBounds_toArray, List.set_cons_zero, List.set_cons_succ, i64_w, i32_w]
      rfl
    refine pure_ (i := 1) (N := some 52) (v := ?_) (a' := ?_) #[true, true, false, false, false, false, false, false, false] rfl rfl (any_of HT_.out (by kernel_rfl)) (fun _ _ _ h => h) (Or.inl ⟨by rfl, ?_⟩) ?_ ?_
    rotate_left
    · intro w'
      go_simp
      with_reducible rfl
    rotate_left
    · simp only [Act.put, List.setIfInBounds_toArray, List.set_cons_zero, List.set_cons_succ, i64_w, i32_w]
      rfl
    refine take_ (i := 2) (N := some 53) (v := ?_) (a' := ?_) #[true, true, true, false, false, false, false, false, false] rfl rfl (take_ofW HT_.out HW_.out (by kernel_rfl)) (fun _ _ _ h => h) (Or.inl ⟨by rfl, ?_⟩) hHeld ?_ ?_
    rotate_left
    · rintro w' s0
      go_simp
      with_reducible rfl
    rotate_left
    · simp only [Act.put, List.setIfInBounds_toArray, List.set_cons_zero, List.set_cons_succ, i64_w, i32_w]
      rfl
    refine pure_ (i := 3) (N := some 54) (v := ?_) (a' := ?_) #[true, true, true, true, false, false, false, false, false] rfl rfl (any_of HT_.out (by kernel_rfl)) (fun _ _ _ h => h) (Or.inl ⟨by rfl, ?_⟩) ?_ ?_
    rotate_left
    · intro w'
      go_simp
      with_reducible rfl
    rotate_left
    · simp only [Act.put, List.setIfInBounds_toArray, List.set_cons_zero, List.set_cons_succ, i64_w, i32_w]
      rfl
    refine pure_ (i := 4) (N := some 55) (v := ?_) (a' := ?_) #[true, true, true, true, true, false, false, false, false] rfl rfl (any_of HT_.out (by kernel_rfl)) (fun _ _ _ h => h) (Or.inl ⟨by rfl, ?_⟩) ?_ ?_
    rotate_left
    · intro w'
      go_simp
      with_reducible rfl
    rotate_left
    · simp only [Act.put, List.setIfInBounds_toArray, List.set_cons_zero, List.set_cons_succ, i64_w, i32_w]
      rfl
    refine take_ (i := 5) (N := some 56) (v := ?_) (a' := ?_) #[true, true, true, true, true, true, false, false, false] rfl rfl (take_ofW HT_.out HW_.out (by kernel_rfl)) (fun _ _ _ h => h) (Or.inl ⟨by rfl, ?_⟩) hHeld ?_ ?_
    rotate_left
    · rintro w' s0
      go_simp
      with_reducible rfl
    rotate_left
    · simp only [Act.put, List.setIfInBounds_toArray, List.set_cons_zero, List.set_cons_succ, i64_w, i32_w]
      rfl
    refine one_ (i := 6) (N := some 57) #[true, true, true, true, true, true, true, false, false] rfl rfl (one_of HT_.out (by kernel_rfl)) (by decide) (fun K hK => ?_)
    refine goes_ Tryd.func21 (by kernel_rfl) rfl #[.int .i64 n8] (by rfl) rfl rfl (by (try simp only [List.map_toArray, List.map_cons, List.map_nil]); first | done | rfl) ?_
    refine (decT_calls n8 _ J.out.tabs).mono ?_
    rintro e z8 ⟨rfl, hb⟩
    refine ⟨_, rfl, ?_⟩
    have I := Aside0.mk (J.out.below hb)
    clear J hb hHeld
    refine hK.out _ _ (I.out.cell 8) (fun hHeld => ?_)
    clear hK K
    refine norm_ (a' := ?_) ?_ ?_
    rotate_left
    · show Act.put _ (some 57) _ = _
      simp only [Act.put, List.setIfInBounds_toArray, List.set_cons_zero, List.set_cons_succ, i64_w, i32_w]
      rfl
    have hsz : (9223372036854775807 < 10 + (decT n8).size) = False := eq_false (by have h1 := Q.out.2; omega)
    refine pure_ (i := 7) (N := some 58) (v := ?_) (a' := ?_) #[true, true, true, true, true, true, true, true, false] rfl rfl (any_of HT_.out (by kernel_rfl)) (fun _ _ _ h => h) (Or.inl ⟨by rfl, ?_⟩) ?_ ?_
    rotate_left
    · intro w'
      go_simp
      with_reducible rfl
    rotate_left
    · simp only [Act.put, List.setIfInBounds_toArray, List.set_cons_zero, List.set_cons_succ, i64_w, i32_w]
      rfl
    refine one_ (i := 8) (N := some 59) #[true, true, true, true, true, true, true, true, true] rfl rfl (one_of HT_.out (by kernel_rfl)) (by decide) (fun K hK => ?_)
    refine goesC_ Tryd.func20 (by kernel_rfl) rfl #[.pointer (some ⟨w2.heap.size, 0, none⟩)] #[.bool (decide (0 ≤ n8)), .string ((⟨#[109, 97, 120, 45, 115, 116, 97, 108, 101, 61]⟩ : ByteArray) ++ decT n8), .pointer (some ⟨w2.heap.size, 0, none⟩)] (by rfl) rfl rfl rfl (by (try simp only [List.map_toArray, List.map_cons, List.map_nil]); first | done | rfl) ?_
    refine (I.out.flag _ _ (Nat.le_trans (dl7_length b0 b1 b2 b3 b4 b5 n6 n7 n8 n9) (by decide))).mono ?_
    rintro e x8 ⟨v8, rfl, hi⟩
    refine ⟨_, rfl, ?_⟩
    have J := Aside0.mk hi
    clear I hi hHeld hsz
    refine hK.out _ _ (J.out.cell 8) (fun hHeld => ?_)
    clear hK K
    refine norm_ (a' := ?_) ?_ ?_
    rotate_left
    · show Act.put _ (some 59) _ = _
      simp only [Act.put, List.setIfInBounds_toArray, List.set_cons_zero, List.set_cons_succ, i64_w, i32_w]
      rfl
    refine done_ (done_of HT_.out (by kernel_rfl)) ?_
    clear HT_ HW_ hHeld
    have I := J
    clear J
    go_wp2_with fail
    have hc : x8.cell? ⟨w.heap.size, 9, none⟩ = some (.int .i64 n9) := I.out.cell 9
    refine start_ (n := 9) (S := fun w' => w'.cell? ⟨w.heap.size, 9, none⟩ = some (.int .i64 n9)) (ds := []) #[false, false, false, false, false, false, false, false, false] (by kernel_rfl) rfl rfl hc (fun hHeld => ?_); refine with_tabW dir_tab14 dir_bits (fun HT_ HW_ => ?_)
    clear hc
    have J := Aside0.mk (show TInv w w2.heap.size _ _ _ x8.drew from I.out.below (below_drew (Below.refl _ _)))
    clear I
    generalize x8.drew = y9 at J hHeld ⊢
    refine pure_ (i := 0) (N := some 60) (v := ?_) (a' := ?_) #[true, false, false, false, false, false, false, false, false] rfl rfl (any_of HT_.out (by kernel_rfl)) (fun _ _ _ h => h) (Or.inl ⟨by rfl, ?_⟩) ?_ ?_
    rotate_left
    · intro w'
      go_simp
      with_reducible rfl
    rotate_left
    · simp only [Act.put, List.setIfInBounds_toArray, List.set_cons_zero, List.set_cons_succ, i64_w, i32_w]
      rfl
    refine pure_ (i := 1) (N := some 61) (v := ?_) (a' := ?_) #[true, true, false, false, false, false, false, false, false] rfl rfl (any_of HT_.out (by kernel_rfl)) (fun _ _ _ h => h) (Or.inl ⟨by rfl, ?_⟩) ?_ ?_
    rotate_left
    · intro w'
      go_simp
      with_reducible rfl
    rotate_left
    · simp only [Act.put, List.setIfInBounds_toArray, List.set_cons_zero, List.set_cons_succ, i64_w, i32_w]
      rfl
    refine take_ (i := 2) (N := some 62) (v := ?_) (a' := ?_) #[true, true, true, false, false, false, false, false, false] rfl rfl (take_ofW HT_.out HW_.out (by kernel_rfl)) (fun _ _ _ h => h) (Or.inl ⟨by rfl, ?_⟩) hHeld ?_ ?_
    rotate_left
    · rintro w' s0
      go_simp
      with_reducible rfl
    rotate_left
    · simp only [Act.put, List.setIfInBounds_toArray, List.set_cons_zero, List.set_cons_succ, i64_w, i32_w]
      rfl
    refine pure_ (i := 3) (N := some 63) (v := ?_) (a' := ?_) #[true, true, true, true, false, false, false, false, false] rfl rfl (any_of HT_.out (by kernel_rfl)) (fun _ _ _ h => h) (Or.inl ⟨by rfl, ?_⟩) ?_ ?_
    rotate_left
    · intro w'
      go_simp
      with_reducible rfl
    rotate_left
    · simp only [Act.put, List.setIfInBounds_toArray, List.set_cons_zero, List.set_cons_succ, i64_w, i32_w]
      rfl
    refine pure_ (i := 4) (N := some 64) (v := ?_) (a' := ?_) #[true, true, true, true, true, false, false, false, false] rfl rfl (any_of HT_.out (by kernel_rfl)) (fun _ _ _ h => h) (Or.inl ⟨by rfl, ?_⟩) ?_ ?_
    rotate_left
    · intro w'
      go_simp
      with_reducible rfl
    rotate_left
    · simp only [Act.put, List.setIfInBounds_toArray, List.set_cons_zero, List.set_cons_succ, i64_w, i32_w]
      rfl
    refine take_ (i := 5) (N := some 65) (v := ?_) (a' := ?_) #[true, true, true, true, true, true, false, false, false] rfl rfl (take_ofW HT_.out HW_.out (by kernel_rfl)) (fun _ _ _ h => h) (Or.inl ⟨by rfl, ?_⟩) hHeld ?_ ?_
    rotate_left
    · rintro w' s0
      go_simp
      with_reducible rfl
    rotate_left
    · simp only [Act.put, List.setIfInBounds_toArray, List.set_cons_zero, List.set_cons_succ, i64_w, i32_w]
      rfl
    refine one_ (i := 6) (N := some 66) #[true, true, true, true, true, true, true, false, false] rfl rfl (one_of HT_.out (by kernel_rfl)) (by decide) (fun K hK => ?_)
    refine goes_ Tryd.func21 (by kernel_rfl) rfl #[.int .i64 n9] (by rfl) rfl rfl (by (try simp only [List.map_toArray, List.map_cons, List.map_nil]); first | done | rfl) ?_
    refine (decT_calls n9 _ J.out.tabs).mono ?_
    rintro e z9 ⟨rfl, hb⟩
    refine ⟨_, rfl, ?_⟩
    have I := Aside0.mk (J.out.below hb)
    clear J hb hHeld
    refine hK.out _ _ (I.out.cell 9) (fun hHeld => ?_)
    clear hK K
    refine norm_ (a' := ?_) ?_ ?_
    rotate_left
    · show Act.put _ (some 66) _ = _
      simp only [Act.put, List.setIfInBounds_toArray, List.set_cons_zero, List.set_cons_succ, i64_w, i32_w]
      rfl
    have hsz : (9223372036854775807 < 10 + (decT n9).size) = False := eq_false (by have h1 := Q.out.2; omega)
    refine pure_ (i := 7) (N := some 67) (v := ?_) (a' := ?_) #[true, true, true, true, true, true, true, true, false] rfl rfl (any_of HT_.out (by kernel_rfl)) (fun _ _ _ h => h) (Or.inl ⟨by rfl, ?_⟩) ?_ ?_
    rotate_left
    · intro w'
      go_simp
      with_reducible rfl
    rotate_left
    · simp only [Act.put, List.setIfInBounds_toArray, List.set_cons_zero, List.set_cons_succ, i64_w, i32_w]
      rfl
    refine one_ (i := 8) (N := some 68) #[true, true, true, true, true, true, true, true, true] rfl rfl (one_of HT_.out (by kernel_rfl)) (by decide) (fun K hK => ?_)
    refine goesC_ Tryd.func20 (by kernel_rfl) rfl #[.pointer (some ⟨w2.heap.size, 0, none⟩)] #[.bool (decide (0 ≤ n9)), .string ((⟨#[109, 105, 110, 45, 102, 114, 101, 115, 104, 61]⟩ : ByteArray) ++ decT n9), .pointer (some ⟨w2.heap.size, 0, none⟩)] (by rfl) rfl rfl rfl (by (try simp only [List.map_toArray, List.map_cons, List.map_nil]); first | done | rfl) ?_
    refine (I.out.flag _ _ (Nat.le_trans (dl8_length b0 b1 b2 b3 b4 b5 n6 n7 n8 n9) (by decide))).mono ?_
    rintro e x9 ⟨v9, rfl, hi⟩
    refine ⟨_, rfl, ?_⟩
    have J := Aside0.mk hi
    clear I hi hHeld hsz
    refine hK.out _ _ (J.out.cell 9) (fun hHeld => ?_)
    clear hK K
    refine norm_ (a' := ?_) ?_ ?_
    rotate_left
    · show Act.put _ (some 68) _ = _
      simp only [Act.put, List.setIfInBounds_toArray, List.set_cons_zero, List.set_cons_succ, i64_w, i32_w]
      rfl
    refine done_ (done_of HT_.out (by kernel_rfl)) ?_
    clear HT_ HW_ hHeld
    have I := J
    clear J
    obtain ⟨A9, c9, rfl⟩ := R_slice I.out.rows
    have hc := blk_cell I.out.box 0
    have hc : x9.cell? ⟨w2.heap.size, 0, none⟩ = some (.slice A9 _ c9) := hc
    go_wp2_with fail
    refine (join_R I.out.rows (Nat.le_trans (dl9_length b0 b1 b2 b3 b4 b5 n6 n7 n8 n9) (by decide)) Q.out.1).mono ?_
    rintro e x10 ⟨rfl, hb⟩
    dsimp only
    clear hc
    have HF := Aside0.mk (I.out.below hb).bel
    clear I hb
    go_wp2
    go_ret
    exact ⟨rfl, below_step (below_alloc (Below.refl _ _) _) (hsz.symm ▸ HF.out)⟩
end Go.Proofs.YtahgiblifkchaaaDoor.P
