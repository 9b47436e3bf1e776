-- Written by a program of ours (myprint.py, by way of the kit's print) out of Lean's print of the translation.
import Derived.Test.YtahgiblifkchaaaDoorPx0
import Derived.Test.YtahgiblifkchaaaDoorPximpl01b
import Derived.Test.YtahgiblifkchaaaDoorPximpl01c
import Derived.Test.YtahgiblifkchaaaDoorPximpl01d
import Derived.Test.YtahgiblifkchaaaDoorPximpl05b
import Derived.Test.YtahgiblifkchaaaDoorPximpl05c
import Derived.Test.YtahgiblifkchaaaDoorPximpl12a
import Derived.Test.YtahgiblifkchaaaDoorPxliba
namespace Go.Proofs.YtahgiblifkchaaaDoor.P
open Go.RowKit Go.Proofs.YtahgiblifkchaaaDoorW.PrintWords Go.Proofs.YtahgiblifkchaaaDoorW.PrintLast Go.Proofs.YtahgiblifkchaaaDoorW.PrintMore
attribute [local go_sem] max2_int min2_int max_two min_two max_three min_three max_four min_four   -- for this text's walks alone
set_option linter.unusedVariables false
set_option linter.unusedSimpArgs false

structure DirD where
 b0 : Bool
 b1 : Bool
 b2 : Bool
 b3 : Bool
 b4 : Bool
 b5 : Bool
 n6 : Int
 n7 : Int
 n8 : Int
 n9 : Int
def DirD.cs (d : DirD) : Array Value := #[.bool d.b0, .bool d.b1, .bool d.b2, .bool d.b3, .bool d.b4, .bool d.b5, .int .i64 d.n6, .int .i64 d.n7, .int .i64 d.n8, .int .i64 d.n9]
set_option maxHeartbeats 8000000 in
set_option maxRecDepth 100000 in
theorem set_calls (B off : Nat) (v n : Int) (cs : Array Value) (w : World) (hbox : w.heap[B]? = some (.cells cs 25 (0, 0))) (hc : cs[off]? = some (.int .i64 v)) :
  Calls Tryd.prog 25 #[.pointer (some ⟨B, off, none⟩), .int .i64 n] w fun e w' => e = .returned (.tuple #[]) ∧ w' = (if v < 0 then w.setCell ⟨B, off, none⟩ (.int .i64 n) else w) := by
 have hcell : w.cell? ⟨B, off, none⟩ = some (.int .i64 v) := by rw [cell_of_row w B off _ _ _ hbox]; exact hc
 have hfz : w.frozen? ⟨B, off, none⟩ = false := blk_frozen hbox off
 clear hbox hc
 by_cases hv : v < 0
 ·rw [if_pos hv]
  have c1 : decide (v < 0) = true := decide_eq_true hv
  clear hv
  go_enter Tryd.func25, Tryd.ntmps25
  go_wp2
  first | go_end0 | ((try simp only [Exit.inBlock, Exit.then]); refine bodyPost_ret (results_none rfl _ _ _) rfl ?_)
  exact ⟨rfl, rfl⟩
 ·rw [if_neg hv]
  have c1 : decide (v < 0) = false := decide_eq_false hv
  clear hv
  go_enter Tryd.func25, Tryd.ntmps25
  go_wp2
  first | go_end0 | ((try simp only [Exit.inBlock, Exit.then]); refine bodyPost_ret (results_none rfl _ _ _) rfl ?_)
  exact ⟨rfl, rfl⟩
def DirD.tup (d : DirD) : Bool × Bool × Bool × Bool × Bool × Bool × Int × Int × Int × Int := (d.b0, d.b1, d.b2, d.b3, d.b4, d.b5, d.n6, d.n7, d.n8, d.n9)
def dir0 : DirD := ⟨false, false, false, false, false, false, -1, -1, -1, -1⟩
def setN (v n : Int) : Int := if v < 0 then n else v
def keyed (k : Nat) (d : DirD) (n v : ByteArray) : Option DirD :=
 if n.toList = ([110, 111, 45, 115, 116, 111, 114, 101] : List UInt8) then some { d with b0 := true }
 else if n.toList = ([110, 111, 45, 99, 97, 99, 104, 101] : List UInt8) then some { d with b1 := true }
 else if n.toList = ([112, 114, 105, 118, 97, 116, 101] : List UInt8) then some { d with b2 := true }
 else if n.toList = ([112, 117, 98, 108, 105, 99] : List UInt8) then some { d with b3 := true }
 else if n.toList = ([111, 110, 108, 121, 45, 105, 102, 45, 99, 97, 99, 104, 101, 100] : List UInt8) then some { d with b5 := true }
 else if n.toList = ([109, 117, 115, 116, 45, 114, 101, 118, 97, 108, 105, 100, 97, 116, 101] : List UInt8) then some { d with b4 := true }
 else if n.toList = ([112, 114, 111, 120, 121, 45, 114, 101, 118, 97, 108, 105, 100, 97, 116, 101] : List UInt8) then some { d with b4 := true }
 else if n.toList = ([109, 97, 120, 45, 97, 103, 101] : List UInt8) then (impl_deltaOr.f k v 0).bind fun m => some { d with n6 := setN d.n6 m }
 else if n.toList = ([115, 45, 109, 97, 120, 97, 103, 101] : List UInt8) then (impl_deltaOr.f k v 0).bind fun m => some { d with n7 := setN d.n7 m }
 else if n.toList = ([109, 97, 120, 45, 115, 116, 97, 108, 101] : List UInt8) then (if v.toList = ([] : List UInt8) then some { d with n8 := setN d.n8 2147483648 } else (impl_deltaOr.f k v 0).bind fun m => some { d with n8 := setN d.n8 m })
 else if n.toList = ([109, 105, 110, 45, 102, 114, 101, 115, 104] : List UInt8) then (impl_deltaOr.f k v 2147483648).bind fun m => some { d with n9 := setN d.n9 m }
 else some d
def dirWord (k : Nat) (d : DirD) (x : ByteArray) : Option DirD := (strings_Cut.f x (⟨#[61]⟩ : ByteArray)).bind fun c => (impl_Trim.f k c.2.1).bind fun v0 => (impl_Unquote.f k v0).bind fun u => (impl_Trim.f k c.1).bind fun n0 => (impl_Fold.f n0).bind fun n => keyed k d n (if u.2 = true then u.1 else v0)
def dirL0 : Nat → List ByteArray → DirD → Int → Option DirD
 | 0, _, _, _ => none
 | k + 1, ws, d, i => if i < (ws.length : Int) then (if 0 ≤ i then (dirWord k d (rdOf ByteArray.empty ws i)).bind fun d' => dirL0 k ws d' (wrap64 (i + 1)) else none) else some d
def dirL1 : Nat → List ByteArray → DirD → Int → Option DirD
 | 0, _, _, _ => none
 | k + 1, ws, d, i => if i < (ws.length : Int) then (if 0 ≤ i then (impl_Fold.f (rdOf ByteArray.empty ws i)).bind fun t => dirL1 k ws (if t.toList = ([110, 111, 45, 99, 97, 99, 104, 101] : List UInt8) then { d with b1 := true } else d) (wrap64 (i + 1)) else none) else some d
def impl_ReadDirs.f (k : Nat) (l0 : List S34) : Option (Bool × Bool × Bool × Bool × Bool × Bool × Int × Int × Int × Int) :=
 (impl_Words.f k l0 (⟨#[99, 97, 99, 104, 101, 45, 99, 111, 110, 116, 114, 111, 108]⟩ : ByteArray)).bind fun ws => (dirL0 k ws dir0 0).bind fun d => (impl_FieldsOk.f k l0).bind fun ok => if ok = true then (impl_hasField.f k l0 (⟨#[99, 97, 99, 104, 101, 45, 99, 111, 110, 116, 114, 111, 108]⟩ : ByteArray)).bind fun has => (if has = true then some d.tup else (impl_Words.f k l0 (⟨#[112, 114, 97, 103, 109, 97]⟩ : ByteArray)).bind fun ps => (dirL1 k ps d 0).bind fun d => some d.tup) else some d.tup
theorem keyed_mono (k : Nat) (d : DirD) (n v : ByteArray) : LeO (keyed k d n v) (keyed (k + 1) d n v) := by
 unfold keyed
 repeat' first
  | (with_reducible exact LeO.refl _)
  | (with_reducible exact impl_deltaOr.mono _ _ _)
  | (with_reducible refine LeO.ite ?_ ?_)
  | (with_reducible refine LeO.bind ?_ (fun _ => ?_))
theorem dirWord_mono (k : Nat) (d : DirD) (x : ByteArray) : LeO (dirWord k d x) (dirWord (k + 1) d x) := by
 unfold dirWord
 exact LeO.bind (LeO.refl _) fun _ => LeO.bind (impl_Trim.mono _ _) fun _ => LeO.bind (impl_Unquote.mono _ _) fun _ => LeO.bind (impl_Trim.mono _ _) fun _ => LeO.bind (LeO.refl _) fun _ => keyed_mono _ _ _ _
theorem dirL0_mono : ∀ k, (∀ ws d i, LeO (dirL0 k ws d i) (dirL0 (k + 1) ws d i))
 | 0 => fun _ _ _ r h => by simp [dirL0] at h
 | k + 1 => fun ws d i => by
  have ih0 := dirL0_mono k
  unfold dirL0
  exact LeO.ite (LeO.ite (LeO.bind (dirWord_mono _ _ _) fun _ => ih0 _ _ _) (LeO.refl _)) (LeO.refl _)
theorem dirL1_mono : ∀ k, (∀ ws d i, LeO (dirL1 k ws d i) (dirL1 (k + 1) ws d i))
 | 0 => fun _ _ _ r h => by simp [dirL1] at h
 | k + 1 => fun ws d i => by
  have ih0 := dirL1_mono k
  unfold dirL1
  exact LeO.ite (LeO.ite (LeO.bind (LeO.refl _) fun _ => ih0 _ _ _) (LeO.refl _)) (LeO.refl _)
theorem impl_ReadDirs.mono : ∀ a0 k, LeO (impl_ReadDirs.f k a0) (impl_ReadDirs.f (k + 1) a0) := by
 intro a0 k
 unfold impl_ReadDirs.f
 exact LeO.bind (impl_Words.mono _ _ _) fun _ => LeO.bind (dirL0_mono _ _ _ _) fun _ => LeO.bind (impl_FieldsOk.mono _ _) fun _ => LeO.ite (LeO.bind (impl_hasField.mono _ _ _) fun _ => LeO.ite (LeO.refl _) (LeO.bind (impl_Words.mono _ _ _) fun _ => LeO.bind (dirL1_mono _ _ _ _) fun _ => LeO.refl _)) (LeO.refl _)
def dirZ : Array Value := #[.bool false, .bool false, .bool false, .bool false, .bool false, .bool false, .int .i64 0, .int .i64 0, .int .i64 0, .int .i64 0]
structure DInv (w : World) (A : Option Addr) (c : Nat) (ws : List ByteArray) (d : DirD) (w' : World) : Prop where
 res : w'.heap[w.heap.size]? = some (.cells dirZ 25 (0, 0))
 box : w'.heap[w.heap.size + 1]? = some (.cells d.cs 25 (0, 0))
 rows : Kd.R Kd.string 9 w' (w.heap.size + 2) (fun k_ => w.heap.size + 2 ≤ k_) (.slice A ws.length c) ws
 bel : Below w.heap.size w w'
theorem DInv.below {w : World} {A : Option Addr} {c : Nat} {ws : List ByteArray} {d : DirD} {w1 w2 : World} (h : DInv w A c ws d w1) (hb : Below w1.heap.size w1 w2) : DInv w A c ws d w2 :=
 ⟨blk_below h.res hb, blk_below h.box hb, Kd.R_below h.rows hb, below_step h.bel hb⟩
theorem DInv.drewN {w : World} {A : Option Addr} {c : Nat} {ws : List ByteArray} {d : DirD} {w1 : World} (h : DInv w A c ws d w1) (n : Nat) : DInv w A c ws d (w1.drewN n) := h.below (pw_below_drewN (Below.refl _ _) n)
theorem DInv.set {w : World} {A : Option Addr} {c : Nat} {ws : List ByteArray} {d : DirD} {w1 : World} (h : DInv w A c ws d w1) (off : Nat) (u : Value) (d' : DirD) (hd : d.cs.setIfInBounds off u = d'.cs) : DInv w A c ws d' (w1.setCell ⟨w.heap.size + 1, off, none⟩ u) :=
 ⟨(Below.heap_setCell w1 ⟨w.heap.size + 1, off, none⟩ u w.heap.size (by simp)).trans h.res, by rw [← hd]; exact blk_set h.box off u, Kd.R_far (p := ⟨w.heap.size + 1, off, none⟩) h.rows (fun k_ hk_ => by simp; omega) u, h.bel.setCell (by simp) u⟩
theorem DInv.cell {w : World} {A : Option Addr} {c : Nat} {ws : List ByteArray} {d : DirD} {w1 : World} (h : DInv w A c ws d w1) (off : Nat) : w1.cell? ⟨w.heap.size + 1, off, none⟩ = d.cs[off]? := by
 rw [cell_of_row w1 (w.heap.size + 1) off _ _ _ h.box]
theorem DInv.free {w : World} {A : Option Addr} {c : Nat} {ws : List ByteArray} {d : DirD} {w1 : World} (h : DInv w A c ws d w1) (off : Nat) : w1.frozen? ⟨w.heap.size + 1, off, none⟩ = false := blk_frozen h.box off
theorem dir_put {w : World} {g : Nat} {d : DirD} (h : w.heap[g]? = some (.cells dirZ 25 (0, 0))) : (((((((((((w).setCell ⟨g, 0, none⟩ (.bool d.b0)).setCell ⟨g, 1, none⟩ (.bool d.b1)).setCell ⟨g, 2, none⟩ (.bool d.b2)).setCell ⟨g, 3, none⟩ (.bool d.b3)).setCell ⟨g, 4, none⟩ (.bool d.b4)).setCell ⟨g, 5, none⟩ (.bool d.b5)).setCell ⟨g, 6, none⟩ (.int .i64 d.n6)).setCell ⟨g, 7, none⟩ (.int .i64 d.n7)).setCell ⟨g, 8, none⟩ (.int .i64 d.n8)).setCell ⟨g, 9, none⟩ (.int .i64 d.n9)).heap[g]? = some (.cells d.cs 25 (0, 0)) :=
 by
 have h := blk_put h 0 (.bool d.b0) (cs' := #[.bool d.b0, .bool false, .bool false, .bool false, .bool false, .bool false, .int .i64 0, .int .i64 0, .int .i64 0, .int .i64 0]) rfl
 have h := blk_put h 1 (.bool d.b1) (cs' := #[.bool d.b0, .bool d.b1, .bool false, .bool false, .bool false, .bool false, .int .i64 0, .int .i64 0, .int .i64 0, .int .i64 0]) rfl
 have h := blk_put h 2 (.bool d.b2) (cs' := #[.bool d.b0, .bool d.b1, .bool d.b2, .bool false, .bool false, .bool false, .int .i64 0, .int .i64 0, .int .i64 0, .int .i64 0]) rfl
 have h := blk_put h 3 (.bool d.b3) (cs' := #[.bool d.b0, .bool d.b1, .bool d.b2, .bool d.b3, .bool false, .bool false, .int .i64 0, .int .i64 0, .int .i64 0, .int .i64 0]) rfl
 have h := blk_put h 4 (.bool d.b4) (cs' := #[.bool d.b0, .bool d.b1, .bool d.b2, .bool d.b3, .bool d.b4, .bool false, .int .i64 0, .int .i64 0, .int .i64 0, .int .i64 0]) rfl
 have h := blk_put h 5 (.bool d.b5) (cs' := #[.bool d.b0, .bool d.b1, .bool d.b2, .bool d.b3, .bool d.b4, .bool d.b5, .int .i64 0, .int .i64 0, .int .i64 0, .int .i64 0]) rfl
 have h := blk_put h 6 (.int .i64 d.n6) (cs' := #[.bool d.b0, .bool d.b1, .bool d.b2, .bool d.b3, .bool d.b4, .bool d.b5, .int .i64 d.n6, .int .i64 0, .int .i64 0, .int .i64 0]) rfl
 have h := blk_put h 7 (.int .i64 d.n7) (cs' := #[.bool d.b0, .bool d.b1, .bool d.b2, .bool d.b3, .bool d.b4, .bool d.b5, .int .i64 d.n6, .int .i64 d.n7, .int .i64 0, .int .i64 0]) rfl
 have h := blk_put h 8 (.int .i64 d.n8) (cs' := #[.bool d.b0, .bool d.b1, .bool d.b2, .bool d.b3, .bool d.b4, .bool d.b5, .int .i64 d.n6, .int .i64 d.n7, .int .i64 d.n8, .int .i64 0]) rfl
 have h := blk_put h 9 (.int .i64 d.n9) (cs' := #[.bool d.b0, .bool d.b1, .bool d.b2, .bool d.b3, .bool d.b4, .bool d.b5, .int .i64 d.n6, .int .i64 d.n7, .int .i64 d.n8, .int .i64 d.n9]) rfl
 exact h
theorem dir_below {w W : World} {d : DirD} (h : Below w.heap.size w W) : Below w.heap.size w (((((((((((W).setCell ⟨w.heap.size, 0, none⟩ (.bool d.b0)).setCell ⟨w.heap.size, 1, none⟩ (.bool d.b1)).setCell ⟨w.heap.size, 2, none⟩ (.bool d.b2)).setCell ⟨w.heap.size, 3, none⟩ (.bool d.b3)).setCell ⟨w.heap.size, 4, none⟩ (.bool d.b4)).setCell ⟨w.heap.size, 5, none⟩ (.bool d.b5)).setCell ⟨w.heap.size, 6, none⟩ (.int .i64 d.n6)).setCell ⟨w.heap.size, 7, none⟩ (.int .i64 d.n7)).setCell ⟨w.heap.size, 8, none⟩ (.int .i64 d.n8)).setCell ⟨w.heap.size, 9, none⟩ (.int .i64 d.n9)) :=
 (below_set (below_set (below_set (below_set (below_set (below_set (below_set (below_set (below_set (below_set h (Nat.le_refl _)) (Nat.le_refl _)) (Nat.le_refl _)) (Nat.le_refl _)) (Nat.le_refl _)) (Nat.le_refl _)) (Nat.le_refl _)) (Nat.le_refl _)) (Nat.le_refl _)) (Nat.le_refl _))
set_option maxHeartbeats 8000000 in
set_option maxRecDepth 100000 in
theorem impl_ReadDirs.calls (k : Nat) (A0 : Option Addr) (c0 : Nat) (l0 : List S34) (r1 r2 r3 r4 r5 r6 : Bool) (r7 r8 r9 r10 : Int) (w : World) (hr0 : Kd.C k34 w A0 l0.length l0) (hc0 : l0.length ≤ c0) (h : impl_ReadDirs.f k l0 = some (r1, r2, r3, r4, r5, r6, r7, r8, r9, r10)) :
  Calls Tryd.prog 12 #[.slice A0 l0.length c0] w fun e w' => e = .returned (.agg #[.bool r1, .bool r2, .bool r3, .bool r4, .bool r5, .bool r6, .int .i64 r7, .int .i64 r8, .int .i64 r9, .int .i64 r10]) ∧ Below w.heap.size w w' := by
 have hu25 := Tryd.underlying25
 have HR0 := Aside0.mk hr0
 have HC0 := Aside0.mk hc0
 clear hr0 hc0
 obtain ⟨ws, A10, H⟩ := Option.bind_eq_some_iff.mp h
 have A1 := Aside0.mk A10
 obtain ⟨d1, L10, H1⟩ := Option.bind_eq_some_iff.mp H
 have L1 := Aside0.mk L10
 have H' := Aside0.mk H1
 clear h A10 L10 H H1
 go_enter Tryd.func12, Tryd.ntmps12
 go_wp2_with fail
 generalize hW2 : World.alloc (World.alloc w _) _ = w2
 have i1 : w2.heap[w.heap.size]? = some (.cells dirZ 25 (0, 0)) := by subst hW2; exact blk_below (blk_new w _) (below_alloc (Below.refl _ _) _)
 have i2 : w2.heap[w.heap.size + 1]? = some (.cells dir0.cs 25 (0, 0)) := by
  subst hW2
  have z_ := blk_new (w.alloc (Obj.cells dirZ 25)) (Obj.cells dir0.cs 25)
  rw [show (w.alloc (Obj.cells dirZ 25)).heap.size = w.heap.size + 1 by simp] at z_
  exact z_
 have i3 : Below w.heap.size w w2 := by subst hW2; exact below_alloc (below_alloc (Below.refl _ _) _) _
 have i4 : w2.heap.size = w.heap.size + 2 := by subst hW2; simp
 clear hW2
 refine (impl_Words.calls k _ _ l0 _ ws _ (Kd.C_below HR0.out i3) HC0.out A1.out).mono ?_
 rintro e w3 ⟨v16, rfl, hr16, hb⟩
 dsimp only
 obtain ⟨A16, c16, rfl⟩ := R_slice hr16
 have I := Aside0.mk (DInv.mk (d := dir0) (blk_below i1 hb) (blk_below i2 hb) (Kd.R_mono (Kd.R_tight rfl (i4 ▸ hr16)) (fun k_ hk_ => Kd.R_base (i4 ▸ hr16) k_ hk_.symm)) (below_step i3 hb))
 clear i1 i2 i3 i4 hr16 hb
 go_wp2
 go_loopg [18] k (fun kq v18 w' => ∃ (x18 : Int) (d : DirD), v18 = .int .i64 x18 ∧ Aside0 (dirL0 kq ws d x18 = some d1) ∧ Aside0 (kq ≤ k) ∧ Aside0 (DInv w A16 c16 ws d w'))
 case atStart => exact ⟨0, dir0, rfl, L1, ⟨Nat.le_refl _⟩, I⟩
 case round =>
  clear L1 I
  obtain ⟨x18, d, rfl, HA, HK1, I⟩ := hrel
  cases gk with
  | zero => exact absurd HA.out (by simp [dirL0])
  | succ k1 =>
   have H := HA.out
   clear HA
   simp only [dirL0] at H
   by_cases c6 : x18 < (ws.length : Int)
   ·rw [if_pos c6] at H
    have c6b0 : decide (x18 < (ws.length : Int)) = true := decide_eq_true c6
    by_cases c7 : 0 ≤ x18
    case neg => rw [if_neg c7] at H; cases H
    rw [if_pos c7] at H
    obtain ⟨d2, W0, H⟩ := Option.bind_eq_some_iff.mp H
    unfold dirWord at W0
    obtain ⟨⟨q1, q2, q3⟩, C1, W0⟩ := Option.bind_eq_some_iff.mp W0
    obtain ⟨v0, C2, W0⟩ := Option.bind_eq_some_iff.mp W0
    obtain ⟨⟨u1, u2⟩, C3, W0⟩ := Option.bind_eq_some_iff.mp W0
    obtain ⟨n0, C4, W0⟩ := Option.bind_eq_some_iff.mp W0
    obtain ⟨nm, C5, W0⟩ := Option.bind_eq_some_iff.mp W0
    have A1 := Aside0.mk C1
    have A2 := Aside0.mk C2
    have A3 := Aside0.mk C3
    have A4 := Aside0.mk C4
    have A5 := Aside0.mk C5
    have A6 := Aside0.mk W0
    have H2 := Aside0.mk H
    clear C1 C2 C3 C4 C5 W0 H
    have c7b0 : decide (0 ≤ x18) = true := decide_eq_true c7
    obtain ⟨ad655, e655, hx655⟩ := Kd.at_string (Kd.R_reads' I.out.rows).2.2 x18 c7 c6
    cases e655
    have p655 := eq_true c7
    have q655 := eq_true c6
    clear c6 c7
    go_wp2_with fail
    refine (strings_Cut.calls _ _ q1 q2 q3 _ A1.out).mono ?_
    rintro e w5 ⟨rfl, ⟨nd, rfl⟩⟩
    dsimp only
    have J := Aside0.mk (I.out.drewN nd)
    clear I A1 hx655
    generalize World.drewN _ nd = w5 at J ⊢
    go_wp2_with fail
    refine (impl_Trim.calls k1 q2 v0 _ A2.out).mono ?_
    rintro e w6 ⟨rfl, ⟨nd, rfl⟩⟩
    dsimp only
    have I := Aside0.mk (J.out.drewN nd)
    clear J A2
    generalize World.drewN _ nd = w6 at I ⊢
    go_wp2_with fail
    refine (impl_Unquote.calls k1 v0 u1 u2 _ A3.out).mono ?_
    rintro e w7 ⟨rfl, hb⟩
    dsimp only
    have J := Aside0.mk (I.out.below hb)
    clear I A3 hb
    obtain ⟨va, hva⟩ : ∃ va : ByteArray, (if u2 = true then u1 else v0) = va := ⟨_, rfl⟩
    rw [hva] at A6
    cases u2 with
    | true =>
     obtain rfl : u1 = va := hva

     go_wp2_with fail
     refine (impl_Trim.calls k1 q1 n0 _ A4.out).mono ?_
     rintro e w8 ⟨rfl, ⟨nd, rfl⟩⟩
     dsimp only
     have I := Aside0.mk (J.out.drewN nd)
     clear J A4
     generalize World.drewN _ nd = w8 at I ⊢
     go_wp2_with fail
     refine (impl_Fold.calls n0 nm _ A5.out).mono ?_
     rintro e w9 ⟨rfl, hb⟩
     dsimp only
     have J := Aside0.mk (I.out.below hb)
     clear I A5 hb
     have W0 := A6.out
     unfold keyed at W0
     clear A6
     by_cases k0 : nm.toList = ([110, 111, 45, 115, 116, 111, 114, 101] : List UInt8)
     ·rw [if_pos k0] at W0
      have kb0 : (nm.toList == ([110, 111, 45, 115, 116, 111, 114, 101] : List UInt8)) = true := beq_iff_eq.mpr k0
      clear k0
      obtain rfl := Option.some.inj W0
      clear W0
      have hcell := J.out.cell 0
      have hfz := J.out.free 0
      have hcell : w9.cell? ⟨w.heap.size + 1, 0, none⟩ = some (.bool d.b0) := hcell
      go_wp2
      go_roundg k1
      case measure => have := HK1.out; omega
      case rel => exact ⟨_, _, rfl, H2, ⟨by have := HK1.out; omega⟩, ⟨J.out.set 0 _ _ rfl⟩⟩
     ·rw [if_neg k0] at W0
      have kb0 : (nm.toList == ([110, 111, 45, 115, 116, 111, 114, 101] : List UInt8)) = false := beq_eq_false_iff_ne.mpr k0
      clear k0
      by_cases k1 : nm.toList = ([110, 111, 45, 99, 97, 99, 104, 101] : List UInt8)
      ·rw [if_pos k1] at W0
       have kb1 : (nm.toList == ([110, 111, 45, 99, 97, 99, 104, 101] : List UInt8)) = true := beq_iff_eq.mpr k1
       clear k1
       obtain rfl := Option.some.inj W0
       clear W0
       have hcell := J.out.cell 1
       have hfz := J.out.free 1
       have hcell : w9.cell? ⟨w.heap.size + 1, 1, none⟩ = some (.bool d.b1) := hcell
       go_wp2
       go_roundg k1
       case measure => have := HK1.out; omega
       case rel => exact ⟨_, _, rfl, H2, ⟨by have := HK1.out; omega⟩, ⟨J.out.set 1 _ _ rfl⟩⟩
      ·rw [if_neg k1] at W0
       have kb1 : (nm.toList == ([110, 111, 45, 99, 97, 99, 104, 101] : List UInt8)) = false := beq_eq_false_iff_ne.mpr k1
       clear k1
       by_cases k2 : nm.toList = ([112, 114, 105, 118, 97, 116, 101] : List UInt8)
       ·rw [if_pos k2] at W0
        have kb2 : (nm.toList == ([112, 114, 105, 118, 97, 116, 101] : List UInt8)) = true := beq_iff_eq.mpr k2
        clear k2
        obtain rfl := Option.some.inj W0
        clear W0
        have hcell := J.out.cell 2
        have hfz := J.out.free 2
        have hcell : w9.cell? ⟨w.heap.size + 1, 2, none⟩ = some (.bool d.b2) := hcell
        go_wp2
        go_roundg k1
        case measure => have := HK1.out; omega
        case rel => exact ⟨_, _, rfl, H2, ⟨by have := HK1.out; omega⟩, ⟨J.out.set 2 _ _ rfl⟩⟩
       ·rw [if_neg k2] at W0
        have kb2 : (nm.toList == ([112, 114, 105, 118, 97, 116, 101] : List UInt8)) = false := beq_eq_false_iff_ne.mpr k2
        clear k2
        by_cases k3 : nm.toList = ([112, 117, 98, 108, 105, 99] : List UInt8)
        ·rw [if_pos k3] at W0
         have kb3 : (nm.toList == ([112, 117, 98, 108, 105, 99] : List UInt8)) = true := beq_iff_eq.mpr k3
         clear k3
         obtain rfl := Option.some.inj W0
         clear W0
         have hcell := J.out.cell 3
         have hfz := J.out.free 3
         have hcell : w9.cell? ⟨w.heap.size + 1, 3, none⟩ = some (.bool d.b3) := hcell
         go_wp2
         go_roundg k1
         case measure => have := HK1.out; omega
         case rel => exact ⟨_, _, rfl, H2, ⟨by have := HK1.out; omega⟩, ⟨J.out.set 3 _ _ rfl⟩⟩
        ·rw [if_neg k3] at W0
         have kb3 : (nm.toList == ([112, 117, 98, 108, 105, 99] : List UInt8)) = false := beq_eq_false_iff_ne.mpr k3
         clear k3
         by_cases k4 : nm.toList = ([111, 110, 108, 121, 45, 105, 102, 45, 99, 97, 99, 104, 101, 100] : List UInt8)
         ·rw [if_pos k4] at W0
          have kb4 : (nm.toList == ([111, 110, 108, 121, 45, 105, 102, 45, 99, 97, 99, 104, 101, 100] : List UInt8)) = true := beq_iff_eq.mpr k4
          clear k4
          obtain rfl := Option.some.inj W0
          clear W0
          have hcell := J.out.cell 5
          have hfz := J.out.free 5
          have hcell : w9.cell? ⟨w.heap.size + 1, 5, none⟩ = some (.bool d.b5) := hcell
          go_wp2
          go_roundg k1
          case measure => have := HK1.out; omega
          case rel => exact ⟨_, _, rfl, H2, ⟨by have := HK1.out; omega⟩, ⟨J.out.set 5 _ _ rfl⟩⟩
         ·rw [if_neg k4] at W0
          have kb4 : (nm.toList == ([111, 110, 108, 121, 45, 105, 102, 45, 99, 97, 99, 104, 101, 100] : List UInt8)) = false := beq_eq_false_iff_ne.mpr k4
          clear k4
          by_cases k5 : nm.toList = ([109, 117, 115, 116, 45, 114, 101, 118, 97, 108, 105, 100, 97, 116, 101] : List UInt8)
          ·rw [if_pos k5] at W0
           have kb5 : (nm.toList == ([109, 117, 115, 116, 45, 114, 101, 118, 97, 108, 105, 100, 97, 116, 101] : List UInt8)) = true := beq_iff_eq.mpr k5
           clear k5
           obtain rfl := Option.some.inj W0
           clear W0
           have hcell := J.out.cell 4
           have hfz := J.out.free 4
           have hcell : w9.cell? ⟨w.heap.size + 1, 4, none⟩ = some (.bool d.b4) := hcell
           go_wp2
           go_roundg k1
           case measure => have := HK1.out; omega
           case rel => exact ⟨_, _, rfl, H2, ⟨by have := HK1.out; omega⟩, ⟨J.out.set 4 _ _ rfl⟩⟩
          ·rw [if_neg k5] at W0
           have kb5 : (nm.toList == ([109, 117, 115, 116, 45, 114, 101, 118, 97, 108, 105, 100, 97, 116, 101] : List UInt8)) = false := beq_eq_false_iff_ne.mpr k5
           clear k5
           by_cases k6 : nm.toList = ([112, 114, 111, 120, 121, 45, 114, 101, 118, 97, 108, 105, 100, 97, 116, 101] : List UInt8)
           ·rw [if_pos k6] at W0
            have kb6 : (nm.toList == ([112, 114, 111, 120, 121, 45, 114, 101, 118, 97, 108, 105, 100, 97, 116, 101] : List UInt8)) = true := beq_iff_eq.mpr k6
            clear k6
            obtain rfl := Option.some.inj W0
            clear W0
            have hcell := J.out.cell 4
            have hfz := J.out.free 4
            have hcell : w9.cell? ⟨w.heap.size + 1, 4, none⟩ = some (.bool d.b4) := hcell
            go_wp2
            go_roundg k1
            case measure => have := HK1.out; omega
            case rel => exact ⟨_, _, rfl, H2, ⟨by have := HK1.out; omega⟩, ⟨J.out.set 4 _ _ rfl⟩⟩
           ·rw [if_neg k6] at W0
            have kb6 : (nm.toList == ([112, 114, 111, 120, 121, 45, 114, 101, 118, 97, 108, 105, 100, 97, 116, 101] : List UInt8)) = false := beq_eq_false_iff_ne.mpr k6
            clear k6
            by_cases k7 : nm.toList = ([109, 97, 120, 45, 97, 103, 101] : List UInt8)
            ·rw [if_pos k7] at W0
             have kb7 : (nm.toList == ([109, 97, 120, 45, 97, 103, 101] : List UInt8)) = true := beq_iff_eq.mpr k7
             clear k7
             obtain ⟨m, W1, W0⟩ := Option.bind_eq_some_iff.mp W0
             have A7 := Aside0.mk W1
             obtain rfl := Option.some.inj W0
             clear W0 W1
             go_wp2_with fail
             refine (impl_deltaOr.calls k1 u1 0 m _ A7.out).mono ?_
             rintro e w10 ⟨rfl, hb⟩
             dsimp only
             have I := Aside0.mk (J.out.below hb)
             clear J A7 hb
             have hcell := I.out.cell 6
             go_wp2_with fail
             refine (set_calls (w.heap.size + 1) 6 d.n6 m d.cs _ I.out.box rfl).mono ?_
             rintro e w11 ⟨rfl, hw11⟩
             dsimp only
             have K11 : DInv w (some ad655) c16 ws { d with n6 := setN d.n6 m } w11 := by
              rw [hw11]
              unfold setN
              split
              ·exact I.out.set 6 _ _ rfl
              ·exact I.out
             have K11 := Aside0.mk K11
             clear I hw11 hcell
             go_wp2
             go_roundg k1
             case measure => have := HK1.out; omega
             case rel => exact ⟨_, _, rfl, H2, ⟨by have := HK1.out; omega⟩, K11⟩
            ·rw [if_neg k7] at W0
             have kb7 : (nm.toList == ([109, 97, 120, 45, 97, 103, 101] : List UInt8)) = false := beq_eq_false_iff_ne.mpr k7
             clear k7
             by_cases k8 : nm.toList = ([115, 45, 109, 97, 120, 97, 103, 101] : List UInt8)
             ·rw [if_pos k8] at W0
              have kb8 : (nm.toList == ([115, 45, 109, 97, 120, 97, 103, 101] : List UInt8)) = true := beq_iff_eq.mpr k8
              clear k8
              obtain ⟨m, W1, W0⟩ := Option.bind_eq_some_iff.mp W0
              have A7 := Aside0.mk W1
              obtain rfl := Option.some.inj W0
              clear W0 W1
              go_wp2_with fail
              refine (impl_deltaOr.calls k1 u1 0 m _ A7.out).mono ?_
              rintro e w10 ⟨rfl, hb⟩
              dsimp only
              have I := Aside0.mk (J.out.below hb)
              clear J A7 hb
              have hcell := I.out.cell 7
              go_wp2_with fail
              refine (set_calls (w.heap.size + 1) 7 d.n7 m d.cs _ I.out.box rfl).mono ?_
              rintro e w11 ⟨rfl, hw11⟩
              dsimp only
              have K11 : DInv w (some ad655) c16 ws { d with n7 := setN d.n7 m } w11 := by
               rw [hw11]
               unfold setN
               split
               ·exact I.out.set 7 _ _ rfl
               ·exact I.out
              have K11 := Aside0.mk K11
              clear I hw11 hcell
              go_wp2
              go_roundg k1
              case measure => have := HK1.out; omega
              case rel => exact ⟨_, _, rfl, H2, ⟨by have := HK1.out; omega⟩, K11⟩
             ·rw [if_neg k8] at W0
              have kb8 : (nm.toList == ([115, 45, 109, 97, 120, 97, 103, 101] : List UInt8)) = false := beq_eq_false_iff_ne.mpr k8
              clear k8
              by_cases k9 : nm.toList = ([109, 97, 120, 45, 115, 116, 97, 108, 101] : List UInt8)
              ·rw [if_pos k9] at W0
               have kb9 : (nm.toList == ([109, 97, 120, 45, 115, 116, 97, 108, 101] : List UInt8)) = true := beq_iff_eq.mpr k9
               clear k9
               by_cases cv : u1.toList = ([] : List UInt8)
               ·rw [if_pos cv] at W0
                have cvb : (u1.toList == ([] : List UInt8)) = true := beq_iff_eq.mpr cv
                obtain rfl := Option.some.inj W0
                clear W0 cv
                have hcell := J.out.cell 8
                go_wp2_with fail
                refine (set_calls (w.heap.size + 1) 8 d.n8 2147483648 d.cs _ J.out.box rfl).mono ?_
                rintro e w11 ⟨rfl, hw11⟩
                dsimp only
                have K11 : DInv w (some ad655) c16 ws { d with n8 := setN d.n8 2147483648 } w11 := by
                 rw [hw11]
                 unfold setN
                 split
                 ·exact J.out.set 8 _ _ rfl
                 ·exact J.out
                have K11 := Aside0.mk K11
                clear J hw11 hcell
                go_wp2
                go_roundg k1
                case measure => have := HK1.out; omega
                case rel => exact ⟨_, _, rfl, H2, ⟨by have := HK1.out; omega⟩, K11⟩
               ·rw [if_neg cv] at W0
                have cvb : (u1.toList == ([] : List UInt8)) = false := beq_eq_false_iff_ne.mpr cv
                clear cv
                obtain ⟨m, W1, W0⟩ := Option.bind_eq_some_iff.mp W0
                have A7 := Aside0.mk W1
                obtain rfl := Option.some.inj W0
                clear W0 W1
                go_wp2_with fail
                refine (impl_deltaOr.calls k1 u1 0 m _ A7.out).mono ?_
                rintro e w10 ⟨rfl, hb⟩
                dsimp only
                have I := Aside0.mk (J.out.below hb)
                clear J A7 hb
                have hcell := I.out.cell 8
                go_wp2_with fail
                refine (set_calls (w.heap.size + 1) 8 d.n8 m d.cs _ I.out.box rfl).mono ?_
                rintro e w11 ⟨rfl, hw11⟩
                dsimp only
                have K11 : DInv w (some ad655) c16 ws { d with n8 := setN d.n8 m } w11 := by
                 rw [hw11]
                 unfold setN
                 split
                 ·exact I.out.set 8 _ _ rfl
                 ·exact I.out
                have K11 := Aside0.mk K11
                clear I hw11 hcell
                go_wp2
                go_roundg k1
                case measure => have := HK1.out; omega
                case rel => exact ⟨_, _, rfl, H2, ⟨by have := HK1.out; omega⟩, K11⟩
              ·rw [if_neg k9] at W0
               have kb9 : (nm.toList == ([109, 97, 120, 45, 115, 116, 97, 108, 101] : List UInt8)) = false := beq_eq_false_iff_ne.mpr k9
               clear k9
               by_cases k10 : nm.toList = ([109, 105, 110, 45, 102, 114, 101, 115, 104] : List UInt8)
               ·rw [if_pos k10] at W0
                have kb10 : (nm.toList == ([109, 105, 110, 45, 102, 114, 101, 115, 104] : List UInt8)) = true := beq_iff_eq.mpr k10
                clear k10
                obtain ⟨m, W1, W0⟩ := Option.bind_eq_some_iff.mp W0
                have A7 := Aside0.mk W1
                obtain rfl := Option.some.inj W0
                clear W0 W1
                go_wp2_with fail
                refine (impl_deltaOr.calls k1 u1 2147483648 m _ A7.out).mono ?_
                rintro e w10 ⟨rfl, hb⟩
                dsimp only
                have I := Aside0.mk (J.out.below hb)
                clear J A7 hb
                have hcell := I.out.cell 9
                go_wp2_with fail
                refine (set_calls (w.heap.size + 1) 9 d.n9 m d.cs _ I.out.box rfl).mono ?_
                rintro e w11 ⟨rfl, hw11⟩
                dsimp only
                have K11 : DInv w (some ad655) c16 ws { d with n9 := setN d.n9 m } w11 := by
                 rw [hw11]
                 unfold setN
                 split
                 ·exact I.out.set 9 _ _ rfl
                 ·exact I.out
                have K11 := Aside0.mk K11
                clear I hw11 hcell
                go_wp2
                go_roundg k1
                case measure => have := HK1.out; omega
                case rel => exact ⟨_, _, rfl, H2, ⟨by have := HK1.out; omega⟩, K11⟩
               ·rw [if_neg k10] at W0
                have kb10 : (nm.toList == ([109, 105, 110, 45, 102, 114, 101, 115, 104] : List UInt8)) = false := beq_eq_false_iff_ne.mpr k10
                clear k10
                obtain rfl := Option.some.inj W0
                clear W0
                go_wp2
                go_roundg k1
                case measure => have := HK1.out; omega
                case rel => exact ⟨_, _, rfl, H2, ⟨by have := HK1.out; omega⟩, J⟩
    | false =>
     obtain rfl : v0 = va := hva

     go_wp2_with fail
     refine (impl_Trim.calls k1 q1 n0 _ A4.out).mono ?_
     rintro e w8 ⟨rfl, ⟨nd, rfl⟩⟩
     dsimp only
     have I := Aside0.mk (J.out.drewN nd)
     clear J A4
     generalize World.drewN _ nd = w8 at I ⊢
     go_wp2_with fail
     refine (impl_Fold.calls n0 nm _ A5.out).mono ?_
     rintro e w9 ⟨rfl, hb⟩
     dsimp only
     have J := Aside0.mk (I.out.below hb)
     clear I A5 hb
     have W0 := A6.out
     unfold keyed at W0
     clear A6
     by_cases k0 : nm.toList = ([110, 111, 45, 115, 116, 111, 114, 101] : List UInt8)
     ·rw [if_pos k0] at W0
      have kb0 : (nm.toList == ([110, 111, 45, 115, 116, 111, 114, 101] : List UInt8)) = true := beq_iff_eq.mpr k0
      clear k0
      obtain rfl := Option.some.inj W0
      clear W0
      have hcell := J.out.cell 0
      have hfz := J.out.free 0
      have hcell : w9.cell? ⟨w.heap.size + 1, 0, none⟩ = some (.bool d.b0) := hcell
      go_wp2
      go_roundg k1
      case measure => have := HK1.out; omega
      case rel => exact ⟨_, _, rfl, H2, ⟨by have := HK1.out; omega⟩, ⟨J.out.set 0 _ _ rfl⟩⟩
     ·rw [if_neg k0] at W0
      have kb0 : (nm.toList == ([110, 111, 45, 115, 116, 111, 114, 101] : List UInt8)) = false := beq_eq_false_iff_ne.mpr k0
      clear k0
      by_cases k1 : nm.toList = ([110, 111, 45, 99, 97, 99, 104, 101] : List UInt8)
      ·rw [if_pos k1] at W0
       have kb1 : (nm.toList == ([110, 111, 45, 99, 97, 99, 104, 101] : List UInt8)) = true := beq_iff_eq.mpr k1
       clear k1
       obtain rfl := Option.some.inj W0
       clear W0
       have hcell := J.out.cell 1
       have hfz := J.out.free 1
       have hcell : w9.cell? ⟨w.heap.size + 1, 1, none⟩ = some (.bool d.b1) := hcell
       go_wp2
       go_roundg k1
       case measure => have := HK1.out; omega
       case rel => exact ⟨_, _, rfl, H2, ⟨by have := HK1.out; omega⟩, ⟨J.out.set 1 _ _ rfl⟩⟩
      ·rw [if_neg k1] at W0
       have kb1 : (nm.toList == ([110, 111, 45, 99, 97, 99, 104, 101] : List UInt8)) = false := beq_eq_false_iff_ne.mpr k1
       clear k1
       by_cases k2 : nm.toList = ([112, 114, 105, 118, 97, 116, 101] : List UInt8)
       ·rw [if_pos k2] at W0
        have kb2 : (nm.toList == ([112, 114, 105, 118, 97, 116, 101] : List UInt8)) = true := beq_iff_eq.mpr k2
        clear k2
        obtain rfl := Option.some.inj W0
        clear W0
        have hcell := J.out.cell 2
        have hfz := J.out.free 2
        have hcell : w9.cell? ⟨w.heap.size + 1, 2, none⟩ = some (.bool d.b2) := hcell
        go_wp2
        go_roundg k1
        case measure => have := HK1.out; omega
        case rel => exact ⟨_, _, rfl, H2, ⟨by have := HK1.out; omega⟩, ⟨J.out.set 2 _ _ rfl⟩⟩
       ·rw [if_neg k2] at W0
        have kb2 : (nm.toList == ([112, 114, 105, 118, 97, 116, 101] : List UInt8)) = false := beq_eq_false_iff_ne.mpr k2
        clear k2
        by_cases k3 : nm.toList = ([112, 117, 98, 108, 105, 99] : List UInt8)
        ·rw [if_pos k3] at W0
         have kb3 : (nm.toList == ([112, 117, 98, 108, 105, 99] : List UInt8)) = true := beq_iff_eq.mpr k3
         clear k3
         obtain rfl := Option.some.inj W0
         clear W0
         have hcell := J.out.cell 3
         have hfz := J.out.free 3
         have hcell : w9.cell? ⟨w.heap.size + 1, 3, none⟩ = some (.bool d.b3) := hcell
         go_wp2
         go_roundg k1
         case measure => have := HK1.out; omega
         case rel => exact ⟨_, _, rfl, H2, ⟨by have := HK1.out; omega⟩, ⟨J.out.set 3 _ _ rfl⟩⟩
        ·rw [if_neg k3] at W0
         have kb3 : (nm.toList == ([112, 117, 98, 108, 105, 99] : List UInt8)) = false := beq_eq_false_iff_ne.mpr k3
         clear k3
         by_cases k4 : nm.toList = ([111, 110, 108, 121, 45, 105, 102, 45, 99, 97, 99, 104, 101, 100] : List UInt8)
         ·rw [if_pos k4] at W0
          have kb4 : (nm.toList == ([111, 110, 108, 121, 45, 105, 102, 45, 99, 97, 99, 104, 101, 100] : List UInt8)) = true := beq_iff_eq.mpr k4
          clear k4
          obtain rfl := Option.some.inj W0
          clear W0
          have hcell := J.out.cell 5
          have hfz := J.out.free 5
          have hcell : w9.cell? ⟨w.heap.size + 1, 5, none⟩ = some (.bool d.b5) := hcell
          go_wp2
          go_roundg k1
          case measure => have := HK1.out; omega
          case rel => exact ⟨_, _, rfl, H2, ⟨by have := HK1.out; omega⟩, ⟨J.out.set 5 _ _ rfl⟩⟩
         ·rw [if_neg k4] at W0
          have kb4 : (nm.toList == ([111, 110, 108, 121, 45, 105, 102, 45, 99, 97, 99, 104, 101, 100] : List UInt8)) = false := beq_eq_false_iff_ne.mpr k4
          clear k4
          by_cases k5 : nm.toList = ([109, 117, 115, 116, 45, 114, 101, 118, 97, 108, 105, 100, 97, 116, 101] : List UInt8)
          ·rw [if_pos k5] at W0
           have kb5 : (nm.toList == ([109, 117, 115, 116, 45, 114, 101, 118, 97, 108, 105, 100, 97, 116, 101] : List UInt8)) = true := beq_iff_eq.mpr k5
           clear k5
           obtain rfl := Option.some.inj W0
           clear W0
           have hcell := J.out.cell 4
           have hfz := J.out.free 4
           have hcell : w9.cell? ⟨w.heap.size + 1, 4, none⟩ = some (.bool d.b4) := hcell
           go_wp2
           go_roundg k1
           case measure => have := HK1.out; omega
           case rel => exact ⟨_, _, rfl, H2, ⟨by have := HK1.out; omega⟩, ⟨J.out.set 4 _ _ rfl⟩⟩
          ·rw [if_neg k5] at W0
           have kb5 : (nm.toList == ([109, 117, 115, 116, 45, 114, 101, 118, 97, 108, 105, 100, 97, 116, 101] : List UInt8)) = false := beq_eq_false_iff_ne.mpr k5
           clear k5
           by_cases k6 : nm.toList = ([112, 114, 111, 120, 121, 45, 114, 101, 118, 97, 108, 105, 100, 97, 116, 101] : List UInt8)
           ·rw [if_pos k6] at W0
            have kb6 : (nm.toList == ([112, 114, 111, 120, 121, 45, 114, 101, 118, 97, 108, 105, 100, 97, 116, 101] : List UInt8)) = true := beq_iff_eq.mpr k6
            clear k6
            obtain rfl := Option.some.inj W0
            clear W0
            have hcell := J.out.cell 4
            have hfz := J.out.free 4
            have hcell : w9.cell? ⟨w.heap.size + 1, 4, none⟩ = some (.bool d.b4) := hcell
            go_wp2
            go_roundg k1
            case measure => have := HK1.out; omega
            case rel => exact ⟨_, _, rfl, H2, ⟨by have := HK1.out; omega⟩, ⟨J.out.set 4 _ _ rfl⟩⟩
           ·rw [if_neg k6] at W0
            have kb6 : (nm.toList == ([112, 114, 111, 120, 121, 45, 114, 101, 118, 97, 108, 105, 100, 97, 116, 101] : List UInt8)) = false := beq_eq_false_iff_ne.mpr k6
            clear k6
            by_cases k7 : nm.toList = ([109, 97, 120, 45, 97, 103, 101] : List UInt8)
            ·rw [if_pos k7] at W0
             have kb7 : (nm.toList == ([109, 97, 120, 45, 97, 103, 101] : List UInt8)) = true := beq_iff_eq.mpr k7
             clear k7
             obtain ⟨m, W1, W0⟩ := Option.bind_eq_some_iff.mp W0
             have A7 := Aside0.mk W1
             obtain rfl := Option.some.inj W0
             clear W0 W1
             go_wp2_with fail
             refine (impl_deltaOr.calls k1 v0 0 m _ A7.out).mono ?_
             rintro e w10 ⟨rfl, hb⟩
             dsimp only
             have I := Aside0.mk (J.out.below hb)
             clear J A7 hb
             have hcell := I.out.cell 6
             go_wp2_with fail
             refine (set_calls (w.heap.size + 1) 6 d.n6 m d.cs _ I.out.box rfl).mono ?_
             rintro e w11 ⟨rfl, hw11⟩
             dsimp only
             have K11 : DInv w (some ad655) c16 ws { d with n6 := setN d.n6 m } w11 := by
              rw [hw11]
              unfold setN
              split
              ·exact I.out.set 6 _ _ rfl
              ·exact I.out
             have K11 := Aside0.mk K11
             clear I hw11 hcell
             go_wp2
             go_roundg k1
             case measure => have := HK1.out; omega
             case rel => exact ⟨_, _, rfl, H2, ⟨by have := HK1.out; omega⟩, K11⟩
            ·rw [if_neg k7] at W0
             have kb7 : (nm.toList == ([109, 97, 120, 45, 97, 103, 101] : List UInt8)) = false := beq_eq_false_iff_ne.mpr k7
             clear k7
             by_cases k8 : nm.toList = ([115, 45, 109, 97, 120, 97, 103, 101] : List UInt8)
             ·rw [if_pos k8] at W0
              have kb8 : (nm.toList == ([115, 45, 109, 97, 120, 97, 103, 101] : List UInt8)) = true := beq_iff_eq.mpr k8
              clear k8
              obtain ⟨m, W1, W0⟩ := Option.bind_eq_some_iff.mp W0
              have A7 := Aside0.mk W1
              obtain rfl := Option.some.inj W0
              clear W0 W1
              go_wp2_with fail
              refine (impl_deltaOr.calls k1 v0 0 m _ A7.out).mono ?_
              rintro e w10 ⟨rfl, hb⟩
              dsimp only
              have I := Aside0.mk (J.out.below hb)
              clear J A7 hb
              have hcell := I.out.cell 7
              go_wp2_with fail
              refine (set_calls (w.heap.size + 1) 7 d.n7 m d.cs _ I.out.box rfl).mono ?_
              rintro e w11 ⟨rfl, hw11⟩
              dsimp only
              have K11 : DInv w (some ad655) c16 ws { d with n7 := setN d.n7 m } w11 := by
               rw [hw11]
               unfold setN
               split
               ·exact I.out.set 7 _ _ rfl
               ·exact I.out
              have K11 := Aside0.mk K11
              clear I hw11 hcell
              go_wp2
              go_roundg k1
              case measure => have := HK1.out; omega
              case rel => exact ⟨_, _, rfl, H2, ⟨by have := HK1.out; omega⟩, K11⟩
             ·rw [if_neg k8] at W0
              have kb8 : (nm.toList == ([115, 45, 109, 97, 120, 97, 103, 101] : List UInt8)) = false := beq_eq_false_iff_ne.mpr k8
              clear k8
              by_cases k9 : nm.toList = ([109, 97, 120, 45, 115, 116, 97, 108, 101] : List UInt8)
              ·rw [if_pos k9] at W0
               have kb9 : (nm.toList == ([109, 97, 120, 45, 115, 116, 97, 108, 101] : List UInt8)) = true := beq_iff_eq.mpr k9
               clear k9
               by_cases cv : v0.toList = ([] : List UInt8)
               ·rw [if_pos cv] at W0
                have cvb : (v0.toList == ([] : List UInt8)) = true := beq_iff_eq.mpr cv
                obtain rfl := Option.some.inj W0
                clear W0 cv
                have hcell := J.out.cell 8
                go_wp2_with fail
                refine (set_calls (w.heap.size + 1) 8 d.n8 2147483648 d.cs _ J.out.box rfl).mono ?_
                rintro e w11 ⟨rfl, hw11⟩
                dsimp only
                have K11 : DInv w (some ad655) c16 ws { d with n8 := setN d.n8 2147483648 } w11 := by
                 rw [hw11]
                 unfold setN
                 split
                 ·exact J.out.set 8 _ _ rfl
                 ·exact J.out
                have K11 := Aside0.mk K11
                clear J hw11 hcell
                go_wp2
                go_roundg k1
                case measure => have := HK1.out; omega
                case rel => exact ⟨_, _, rfl, H2, ⟨by have := HK1.out; omega⟩, K11⟩
               ·rw [if_neg cv] at W0
                have cvb : (v0.toList == ([] : List UInt8)) = false := beq_eq_false_iff_ne.mpr cv
                clear cv
                obtain ⟨m, W1, W0⟩ := Option.bind_eq_some_iff.mp W0
                have A7 := Aside0.mk W1
                obtain rfl := Option.some.inj W0
                clear W0 W1
                go_wp2_with fail
                refine (impl_deltaOr.calls k1 v0 0 m _ A7.out).mono ?_
                rintro e w10 ⟨rfl, hb⟩
                dsimp only
                have I := Aside0.mk (J.out.below hb)
                clear J A7 hb
                have hcell := I.out.cell 8
                go_wp2_with fail
                refine (set_calls (w.heap.size + 1) 8 d.n8 m d.cs _ I.out.box rfl).mono ?_
                rintro e w11 ⟨rfl, hw11⟩
                dsimp only
                have K11 : DInv w (some ad655) c16 ws { d with n8 := setN d.n8 m } w11 := by
                 rw [hw11]
                 unfold setN
                 split
                 ·exact I.out.set 8 _ _ rfl
                 ·exact I.out
                have K11 := Aside0.mk K11
                clear I hw11 hcell
                go_wp2
                go_roundg k1
                case measure => have := HK1.out; omega
                case rel => exact ⟨_, _, rfl, H2, ⟨by have := HK1.out; omega⟩, K11⟩
              ·rw [if_neg k9] at W0
               have kb9 : (nm.toList == ([109, 97, 120, 45, 115, 116, 97, 108, 101] : List UInt8)) = false := beq_eq_false_iff_ne.mpr k9
               clear k9
               by_cases k10 : nm.toList = ([109, 105, 110, 45, 102, 114, 101, 115, 104] : List UInt8)
               ·rw [if_pos k10] at W0
                have kb10 : (nm.toList == ([109, 105, 110, 45, 102, 114, 101, 115, 104] : List UInt8)) = true := beq_iff_eq.mpr k10
                clear k10
                obtain ⟨m, W1, W0⟩ := Option.bind_eq_some_iff.mp W0
                have A7 := Aside0.mk W1
                obtain rfl := Option.some.inj W0
                clear W0 W1
                go_wp2_with fail
                refine (impl_deltaOr.calls k1 v0 2147483648 m _ A7.out).mono ?_
                rintro e w10 ⟨rfl, hb⟩
                dsimp only
                have I := Aside0.mk (J.out.below hb)
                clear J A7 hb
                have hcell := I.out.cell 9
                go_wp2_with fail
                refine (set_calls (w.heap.size + 1) 9 d.n9 m d.cs _ I.out.box rfl).mono ?_
                rintro e w11 ⟨rfl, hw11⟩
                dsimp only
                have K11 : DInv w (some ad655) c16 ws { d with n9 := setN d.n9 m } w11 := by
                 rw [hw11]
                 unfold setN
                 split
                 ·exact I.out.set 9 _ _ rfl
                 ·exact I.out
                have K11 := Aside0.mk K11
                clear I hw11 hcell
                go_wp2
                go_roundg k1
                case measure => have := HK1.out; omega
                case rel => exact ⟨_, _, rfl, H2, ⟨by have := HK1.out; omega⟩, K11⟩
               ·rw [if_neg k10] at W0
                have kb10 : (nm.toList == ([109, 105, 110, 45, 102, 114, 101, 115, 104] : List UInt8)) = false := beq_eq_false_iff_ne.mpr k10
                clear k10
                obtain rfl := Option.some.inj W0
                clear W0
                go_wp2
                go_roundg k1
                case measure => have := HK1.out; omega
                case rel => exact ⟨_, _, rfl, H2, ⟨by have := HK1.out; omega⟩, J⟩
   ·rw [if_neg c6] at H
    have c6b0 : decide (x18 < (ws.length : Int)) = false := decide_eq_false c6
    clear c6
    obtain rfl := Option.some.inj H
    clear H
    obtain ⟨ok, O1, H⟩ := Option.bind_eq_some_iff.mp H'.out
    have A3 := Aside0.mk O1
    clear O1 H'
    go_wp2_with fail
    refine (impl_FieldsOk.calls k _ _ l0 ok _ (Kd.C_below HR0.out I.out.bel) HC0.out A3.out).mono ?_
    rintro e w12 ⟨rfl, hb⟩
    dsimp only
    have J := Aside0.mk (I.out.below hb)
    clear I A3 hb
    cases ok with
    | false =>
     have e1 : some d.tup = some (r1, r2, r3, r4, r5, r6, r7, r8, r9, r10) := by simpa using H
     clear H
     obtain ⟨rfl, rfl, rfl, rfl, rfl, rfl, rfl, rfl, rfl, rfl⟩ : d.b0 = r1 ∧ d.b1 = r2 ∧ d.b2 = r3 ∧ d.b3 = r4 ∧ d.b4 = r5 ∧ d.b5 = r6 ∧ d.n6 = r7 ∧ d.n7 = r8 ∧ d.n8 = r9 ∧ d.n9 = r10 := by
      have e2 := Option.some.inj e1
      unfold DirD.tup at e2
      simpa only [Prod.mk.injEq] using e2
     clear e1
     have hc0 : w12.cell? ⟨w.heap.size + 1, 0, none⟩ = some (.bool d.b0) := J.out.cell 0
     have hc1 : w12.cell? ⟨w.heap.size + 1, 1, none⟩ = some (.bool d.b1) := J.out.cell 1
     have hc2 : w12.cell? ⟨w.heap.size + 1, 2, none⟩ = some (.bool d.b2) := J.out.cell 2
     have hc3 : w12.cell? ⟨w.heap.size + 1, 3, none⟩ = some (.bool d.b3) := J.out.cell 3
     have hc4 : w12.cell? ⟨w.heap.size + 1, 4, none⟩ = some (.bool d.b4) := J.out.cell 4
     have hc5 : w12.cell? ⟨w.heap.size + 1, 5, none⟩ = some (.bool d.b5) := J.out.cell 5
     have hc6 : w12.cell? ⟨w.heap.size + 1, 6, none⟩ = some (.int .i64 d.n6) := J.out.cell 6
     have hc7 : w12.cell? ⟨w.heap.size + 1, 7, none⟩ = some (.int .i64 d.n7) := J.out.cell 7
     have hc8 : w12.cell? ⟨w.heap.size + 1, 8, none⟩ = some (.int .i64 d.n8) := J.out.cell 8
     have hc9 : w12.cell? ⟨w.heap.size + 1, 9, none⟩ = some (.int .i64 d.n9) := J.out.cell 9
     have hz0 : w12.cell? ⟨w.heap.size, 0, none⟩ = some (.bool false) := (blk_cell J.out.res 0).trans rfl
     have hf0 : w12.frozen? ⟨w.heap.size, 0, none⟩ = false := blk_frozen J.out.res 0
     have hz1 : w12.cell? ⟨w.heap.size, 1, none⟩ = some (.bool false) := (blk_cell J.out.res 1).trans rfl
     have hf1 : w12.frozen? ⟨w.heap.size, 1, none⟩ = false := blk_frozen J.out.res 1
     have hz2 : w12.cell? ⟨w.heap.size, 2, none⟩ = some (.bool false) := (blk_cell J.out.res 2).trans rfl
     have hf2 : w12.frozen? ⟨w.heap.size, 2, none⟩ = false := blk_frozen J.out.res 2
     have hz3 : w12.cell? ⟨w.heap.size, 3, none⟩ = some (.bool false) := (blk_cell J.out.res 3).trans rfl
     have hf3 : w12.frozen? ⟨w.heap.size, 3, none⟩ = false := blk_frozen J.out.res 3
     have hz4 : w12.cell? ⟨w.heap.size, 4, none⟩ = some (.bool false) := (blk_cell J.out.res 4).trans rfl
     have hf4 : w12.frozen? ⟨w.heap.size, 4, none⟩ = false := blk_frozen J.out.res 4
     have hz5 : w12.cell? ⟨w.heap.size, 5, none⟩ = some (.bool false) := (blk_cell J.out.res 5).trans rfl
     have hf5 : w12.frozen? ⟨w.heap.size, 5, none⟩ = false := blk_frozen J.out.res 5
     have hz6 : w12.cell? ⟨w.heap.size, 6, none⟩ = some (.int .i64 0) := (blk_cell J.out.res 6).trans rfl
     have hf6 : w12.frozen? ⟨w.heap.size, 6, none⟩ = false := blk_frozen J.out.res 6
     have hz7 : w12.cell? ⟨w.heap.size, 7, none⟩ = some (.int .i64 0) := (blk_cell J.out.res 7).trans rfl
     have hf7 : w12.frozen? ⟨w.heap.size, 7, none⟩ = false := blk_frozen J.out.res 7
     have hz8 : w12.cell? ⟨w.heap.size, 8, none⟩ = some (.int .i64 0) := (blk_cell J.out.res 8).trans rfl
     have hf8 : w12.frozen? ⟨w.heap.size, 8, none⟩ = false := blk_frozen J.out.res 8
     have hz9 : w12.cell? ⟨w.heap.size, 9, none⟩ = some (.int .i64 0) := (blk_cell J.out.res 9).trans rfl
     have hf9 : w12.frozen? ⟨w.heap.size, 9, none⟩ = false := blk_frozen J.out.res 9
     go_wp2
     refine bodyPost_ret (results_cell_row rfl _ _ w.heap.size 25 d.cs (0, 0) _ rfl (dir_put J.out.res) Tryd.underlying25 rfl (by kernel_rfl)) rfl ?_
     exact ⟨rfl, dir_below J.out.bel⟩
    | true =>
     have H1 := H
     rw [if_pos rfl] at H1
     clear H
     obtain ⟨has, O1, H⟩ := Option.bind_eq_some_iff.mp H1
     have A4 := Aside0.mk O1
     clear O1 H1
     go_wp2_with fail
     refine (impl_hasField.calls k _ _ l0 _ has _ (Kd.C_below HR0.out J.out.bel) HC0.out A4.out).mono ?_
     rintro e w13 ⟨rfl, hb⟩
     dsimp only
     have I := Aside0.mk (J.out.below hb)
     clear J A4 hb
     have J := I
     clear I
     cases has with
     | true =>
      have e1 : some d.tup = some (r1, r2, r3, r4, r5, r6, r7, r8, r9, r10) := by simpa using H
      clear H
      obtain ⟨rfl, rfl, rfl, rfl, rfl, rfl, rfl, rfl, rfl, rfl⟩ : d.b0 = r1 ∧ d.b1 = r2 ∧ d.b2 = r3 ∧ d.b3 = r4 ∧ d.b4 = r5 ∧ d.b5 = r6 ∧ d.n6 = r7 ∧ d.n7 = r8 ∧ d.n8 = r9 ∧ d.n9 = r10 := by
       have e2 := Option.some.inj e1
       unfold DirD.tup at e2
       simpa only [Prod.mk.injEq] using e2
      clear e1
      have hc0 : w13.cell? ⟨w.heap.size + 1, 0, none⟩ = some (.bool d.b0) := J.out.cell 0
      have hc1 : w13.cell? ⟨w.heap.size + 1, 1, none⟩ = some (.bool d.b1) := J.out.cell 1
      have hc2 : w13.cell? ⟨w.heap.size + 1, 2, none⟩ = some (.bool d.b2) := J.out.cell 2
      have hc3 : w13.cell? ⟨w.heap.size + 1, 3, none⟩ = some (.bool d.b3) := J.out.cell 3
      have hc4 : w13.cell? ⟨w.heap.size + 1, 4, none⟩ = some (.bool d.b4) := J.out.cell 4
      have hc5 : w13.cell? ⟨w.heap.size + 1, 5, none⟩ = some (.bool d.b5) := J.out.cell 5
      have hc6 : w13.cell? ⟨w.heap.size + 1, 6, none⟩ = some (.int .i64 d.n6) := J.out.cell 6
      have hc7 : w13.cell? ⟨w.heap.size + 1, 7, none⟩ = some (.int .i64 d.n7) := J.out.cell 7
      have hc8 : w13.cell? ⟨w.heap.size + 1, 8, none⟩ = some (.int .i64 d.n8) := J.out.cell 8
      have hc9 : w13.cell? ⟨w.heap.size + 1, 9, none⟩ = some (.int .i64 d.n9) := J.out.cell 9
      have hz0 : w13.cell? ⟨w.heap.size, 0, none⟩ = some (.bool false) := (blk_cell J.out.res 0).trans rfl
      have hf0 : w13.frozen? ⟨w.heap.size, 0, none⟩ = false := blk_frozen J.out.res 0
      have hz1 : w13.cell? ⟨w.heap.size, 1, none⟩ = some (.bool false) := (blk_cell J.out.res 1).trans rfl
      have hf1 : w13.frozen? ⟨w.heap.size, 1, none⟩ = false := blk_frozen J.out.res 1
      have hz2 : w13.cell? ⟨w.heap.size, 2, none⟩ = some (.bool false) := (blk_cell J.out.res 2).trans rfl
      have hf2 : w13.frozen? ⟨w.heap.size, 2, none⟩ = false := blk_frozen J.out.res 2
      have hz3 : w13.cell? ⟨w.heap.size, 3, none⟩ = some (.bool false) := (blk_cell J.out.res 3).trans rfl
      have hf3 : w13.frozen? ⟨w.heap.size, 3, none⟩ = false := blk_frozen J.out.res 3
      have hz4 : w13.cell? ⟨w.heap.size, 4, none⟩ = some (.bool false) := (blk_cell J.out.res 4).trans rfl
      have hf4 : w13.frozen? ⟨w.heap.size, 4, none⟩ = false := blk_frozen J.out.res 4
      have hz5 : w13.cell? ⟨w.heap.size, 5, none⟩ = some (.bool false) := (blk_cell J.out.res 5).trans rfl
      have hf5 : w13.frozen? ⟨w.heap.size, 5, none⟩ = false := blk_frozen J.out.res 5
      have hz6 : w13.cell? ⟨w.heap.size, 6, none⟩ = some (.int .i64 0) := (blk_cell J.out.res 6).trans rfl
      have hf6 : w13.frozen? ⟨w.heap.size, 6, none⟩ = false := blk_frozen J.out.res 6
      have hz7 : w13.cell? ⟨w.heap.size, 7, none⟩ = some (.int .i64 0) := (blk_cell J.out.res 7).trans rfl
      have hf7 : w13.frozen? ⟨w.heap.size, 7, none⟩ = false := blk_frozen J.out.res 7
      have hz8 : w13.cell? ⟨w.heap.size, 8, none⟩ = some (.int .i64 0) := (blk_cell J.out.res 8).trans rfl
      have hf8 : w13.frozen? ⟨w.heap.size, 8, none⟩ = false := blk_frozen J.out.res 8
      have hz9 : w13.cell? ⟨w.heap.size, 9, none⟩ = some (.int .i64 0) := (blk_cell J.out.res 9).trans rfl
      have hf9 : w13.frozen? ⟨w.heap.size, 9, none⟩ = false := blk_frozen J.out.res 9
      go_wp2
      refine bodyPost_ret (results_cell_row rfl _ _ w.heap.size 25 d.cs (0, 0) _ rfl (dir_put J.out.res) Tryd.underlying25 rfl (by kernel_rfl)) rfl ?_
      exact ⟨rfl, dir_below J.out.bel⟩
     | false =>
      have H1 := H
      rw [if_neg (by decide)] at H1
      clear H
      obtain ⟨ps, O1, H⟩ := Option.bind_eq_some_iff.mp H1
      obtain ⟨d9, O2, H2⟩ := Option.bind_eq_some_iff.mp H
      have A5 := Aside0.mk O1
      have L2 := Aside0.mk O2
      have H3 := Aside0.mk H2
      clear O1 O2 H H1 H2
      go_wp2_with fail
      refine (impl_Words.calls k _ _ l0 _ ps _ (Kd.C_below HR0.out J.out.bel) HC0.out A5.out).mono ?_
      rintro e w14 ⟨v101, rfl, hr101, hb⟩
      dsimp only
      obtain ⟨A101, c101, rfl⟩ := R_slice hr101
      have hsz : w.heap.size + 2 ≤ w13.heap.size := by have := blk_lt J.out.box; omega
      have hr := Kd.R_lower hr101 hsz
      have I := Aside0.mk (DInv.mk (d := d) (blk_below J.out.res hb) (blk_below J.out.box hb) (Kd.R_mono (Kd.R_tight rfl hr) (fun k_ hk_ => Kd.R_base hr k_ hk_.symm)) (below_step J.out.bel hb))
      clear J hr hr101 hb hsz
      go_wp2
      go_loopg [103] k (fun kq v103 w' => ∃ (x103 : Int) (d : DirD), v103 = .int .i64 x103 ∧ Aside0 (dirL1 kq ps d x103 = some d9) ∧ Aside0 (kq ≤ k) ∧ Aside0 (DInv w A101 c101 ps d w'))
      case atStart => exact ⟨0, d, rfl, L2, ⟨Nat.le_refl _⟩, I⟩
      case round =>
       clear L2 I
       obtain ⟨x103, dq, rfl, HA, HK1, I⟩ := hrel
       cases gk with
       | zero => exact absurd HA.out (by simp [dirL1])
       | succ k1 =>
        have H := HA.out
        clear HA
        simp only [dirL1] at H
        by_cases c6 : x103 < (ps.length : Int)
        ·rw [if_pos c6] at H
         have c6b0 : decide (x103 < (ps.length : Int)) = true := decide_eq_true c6
         by_cases c7 : 0 ≤ x103
         case neg => rw [if_neg c7] at H; cases H
         rw [if_pos c7] at H
         obtain ⟨t, W0, H⟩ := Option.bind_eq_some_iff.mp H
         have A6 := Aside0.mk W0
         clear W0
         have c7b0 : decide (0 ≤ x103) = true := decide_eq_true c7
         obtain ⟨ad655, e655, hx655⟩ := Kd.at_string (Kd.R_reads' I.out.rows).2.2 x103 c7 c6
         cases e655
         have p655 := eq_true c7
         have q655 := eq_true c6
         clear c6 c7
         go_wp2_with fail
         refine (impl_Fold.calls _ t _ A6.out).mono ?_
         rintro e w15 ⟨rfl, hb⟩
         dsimp only
         have J := Aside0.mk (I.out.below hb)
         clear I A6 hb hx655
         by_cases kt : t.toList = ([110, 111, 45, 99, 97, 99, 104, 101] : List UInt8)
         ·rw [if_pos kt] at H
          have H2 := Aside0.mk H
          have ktb : (t.toList == ([110, 111, 45, 99, 97, 99, 104, 101] : List UInt8)) = true := beq_iff_eq.mpr kt
          clear kt H
          have hcell : w15.cell? ⟨w.heap.size + 1, 1, none⟩ = some (.bool dq.b1) := J.out.cell 1
          have hfz := J.out.free 1
          go_wp2
          go_roundg k1
          case measure => have := HK1.out; omega
          case rel => exact ⟨_, _, rfl, H2, ⟨by have := HK1.out; omega⟩, ⟨J.out.set 1 _ _ rfl⟩⟩
         ·rw [if_neg kt] at H
          have H2 := Aside0.mk H
          have ktb : (t.toList == ([110, 111, 45, 99, 97, 99, 104, 101] : List UInt8)) = false := beq_eq_false_iff_ne.mpr kt
          clear kt H
          go_wp2
          go_roundg k1
          case measure => have := HK1.out; omega
          case rel => exact ⟨_, _, rfl, H2, ⟨by have := HK1.out; omega⟩, J⟩
        ·rw [if_neg c6] at H
         have c6b0 : decide (x103 < (ps.length : Int)) = false := decide_eq_false c6
         clear c6
         obtain rfl := Option.some.inj H
         have J := I
         have H4 := H3.out
         clear H H3 I
         have e1 : some dq.tup = some (r1, r2, r3, r4, r5, r6, r7, r8, r9, r10) := by simpa using H4
         clear H4
         obtain ⟨rfl, rfl, rfl, rfl, rfl, rfl, rfl, rfl, rfl, rfl⟩ : dq.b0 = r1 ∧ dq.b1 = r2 ∧ dq.b2 = r3 ∧ dq.b3 = r4 ∧ dq.b4 = r5 ∧ dq.b5 = r6 ∧ dq.n6 = r7 ∧ dq.n7 = r8 ∧ dq.n8 = r9 ∧ dq.n9 = r10 := by
          have e2 := Option.some.inj e1
          unfold DirD.tup at e2
          simpa only [Prod.mk.injEq] using e2
         clear e1
         have hc0 : wr.cell? ⟨w.heap.size + 1, 0, none⟩ = some (.bool dq.b0) := J.out.cell 0
         have hc1 : wr.cell? ⟨w.heap.size + 1, 1, none⟩ = some (.bool dq.b1) := J.out.cell 1
         have hc2 : wr.cell? ⟨w.heap.size + 1, 2, none⟩ = some (.bool dq.b2) := J.out.cell 2
         have hc3 : wr.cell? ⟨w.heap.size + 1, 3, none⟩ = some (.bool dq.b3) := J.out.cell 3
         have hc4 : wr.cell? ⟨w.heap.size + 1, 4, none⟩ = some (.bool dq.b4) := J.out.cell 4
         have hc5 : wr.cell? ⟨w.heap.size + 1, 5, none⟩ = some (.bool dq.b5) := J.out.cell 5
         have hc6 : wr.cell? ⟨w.heap.size + 1, 6, none⟩ = some (.int .i64 dq.n6) := J.out.cell 6
         have hc7 : wr.cell? ⟨w.heap.size + 1, 7, none⟩ = some (.int .i64 dq.n7) := J.out.cell 7
         have hc8 : wr.cell? ⟨w.heap.size + 1, 8, none⟩ = some (.int .i64 dq.n8) := J.out.cell 8
         have hc9 : wr.cell? ⟨w.heap.size + 1, 9, none⟩ = some (.int .i64 dq.n9) := J.out.cell 9
         have hz0 : wr.cell? ⟨w.heap.size, 0, none⟩ = some (.bool false) := (blk_cell J.out.res 0).trans rfl
         have hf0 : wr.frozen? ⟨w.heap.size, 0, none⟩ = false := blk_frozen J.out.res 0
         have hz1 : wr.cell? ⟨w.heap.size, 1, none⟩ = some (.bool false) := (blk_cell J.out.res 1).trans rfl
         have hf1 : wr.frozen? ⟨w.heap.size, 1, none⟩ = false := blk_frozen J.out.res 1
         have hz2 : wr.cell? ⟨w.heap.size, 2, none⟩ = some (.bool false) := (blk_cell J.out.res 2).trans rfl
         have hf2 : wr.frozen? ⟨w.heap.size, 2, none⟩ = false := blk_frozen J.out.res 2
         have hz3 : wr.cell? ⟨w.heap.size, 3, none⟩ = some (.bool false) := (blk_cell J.out.res 3).trans rfl
         have hf3 : wr.frozen? ⟨w.heap.size, 3, none⟩ = false := blk_frozen J.out.res 3
         have hz4 : wr.cell? ⟨w.heap.size, 4, none⟩ = some (.bool false) := (blk_cell J.out.res 4).trans rfl
         have hf4 : wr.frozen? ⟨w.heap.size, 4, none⟩ = false := blk_frozen J.out.res 4
         have hz5 : wr.cell? ⟨w.heap.size, 5, none⟩ = some (.bool false) := (blk_cell J.out.res 5).trans rfl
         have hf5 : wr.frozen? ⟨w.heap.size, 5, none⟩ = false := blk_frozen J.out.res 5
         have hz6 : wr.cell? ⟨w.heap.size, 6, none⟩ = some (.int .i64 0) := (blk_cell J.out.res 6).trans rfl
         have hf6 : wr.frozen? ⟨w.heap.size, 6, none⟩ = false := blk_frozen J.out.res 6
         have hz7 : wr.cell? ⟨w.heap.size, 7, none⟩ = some (.int .i64 0) := (blk_cell J.out.res 7).trans rfl
         have hf7 : wr.frozen? ⟨w.heap.size, 7, none⟩ = false := blk_frozen J.out.res 7
         have hz8 : wr.cell? ⟨w.heap.size, 8, none⟩ = some (.int .i64 0) := (blk_cell J.out.res 8).trans rfl
         have hf8 : wr.frozen? ⟨w.heap.size, 8, none⟩ = false := blk_frozen J.out.res 8
         have hz9 : wr.cell? ⟨w.heap.size, 9, none⟩ = some (.int .i64 0) := (blk_cell J.out.res 9).trans rfl
         have hf9 : wr.frozen? ⟨w.heap.size, 9, none⟩ = false := blk_frozen J.out.res 9
         go_wp2
         refine bodyPost_ret (results_cell_row rfl _ _ w.heap.size 25 dq.cs (0, 0) _ rfl (dir_put J.out.res) Tryd.underlying25 rfl (by kernel_rfl)) rfl ?_
         exact ⟨rfl, dir_below J.out.bel⟩

end Go.Proofs.YtahgiblifkchaaaDoor.P
