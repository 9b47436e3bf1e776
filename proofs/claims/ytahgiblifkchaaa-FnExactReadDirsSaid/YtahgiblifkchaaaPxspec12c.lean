-- Written by a program of ours (myprint.py, by way of the kit's print) out of Lean's print of the translation.
import Derived.Test.YtahgiblifkchaaaPx0
import Derived.Test.YtahgiblifkchaaaPxspec01c
import Derived.Test.YtahgiblifkchaaaPxspec05c
import Derived.Test.YtahgiblifkchaaaPxspec12a
import Derived.Test.YtahgiblifkchaaaPxspec12b
namespace Go.Proofs.Ytahgiblifkchaaa.P
open Go.RowKit Go.Proofs.YtahgiblifkchaaaW.PrintWords Go.Proofs.YtahgiblifkchaaaW.PrintLast Go.Proofs.YtahgiblifkchaaaW.PrintMore
attribute [local go_sem] max2_int min2_int max_two min_two max_three min_three max_four min_four   -- for this text's walks alone
set_option linter.unusedVariables false
set_option linter.unusedSimpArgs false

mutual
def spec_ReadDirs.j0 : Nat → List (S71) → List ByteArray → Bool → Bool → Bool → Bool → Bool → Bool → Int → Int → Int → Int → Option (Bool × Bool × Bool × Bool × Bool × Bool × Int × Int × Int × Int)
 | 0, _, _, _, _, _, _, _, _, _, _, _, _ => none
 | k + 1, x0, x3, x256000, x256001, x256002, x256003, x256004, x256005, x256006, x256007, x256008, x256009 => (spec_l12num.f k x3 (⟨#[109, 97, 120, 45, 97, 103, 101]⟩ : ByteArray) 0 0).bind fun t258 => ((spec_l12num.f k x3 (⟨#[115, 45, 109, 97, 120, 97, 103, 101]⟩ : ByteArray) 0 0).bind fun t259 => ((spec_l12num.f k x3 (⟨#[109, 97, 120, 45, 115, 116, 97, 108, 101]⟩ : ByteArray) 2147483648 0).bind fun t260 => ((spec_l12num.f k x3 (⟨#[109, 105, 110, 45, 102, 114, 101, 115, 104]⟩ : ByteArray) 2147483648 2147483648).bind fun t261 => ((spec_Get.f k x0 (⟨#[99, 97, 99, 104, 101, 45, 99, 111, 110, 116, 114, 111, 108]⟩ : ByteArray)).bind fun bt262 => (if bt262.2 = true then (some (x256000, x256001, x256002, x256003, x256004, x256005, t258, t259, t260, t261)) else ((spec_Words.f k x0 (⟨#[112, 114, 97, 103, 109, 97]⟩ : ByteArray)).bind fun t264 => (spec_ReadDirs.l0 k t264 0 x256000 x256001 x256002 x256003 x256004 x256005 t258 t259 t260 t261)))))))
def spec_ReadDirs.l0 : Nat → List ByteArray → Int → Bool → Bool → Bool → Bool → Bool → Bool → Int → Int → Int → Int → Option (Bool × Bool × Bool × Bool × Bool × Bool × Int × Int × Int × Int)
 | 0, _, _, _, _, _, _, _, _, _, _, _, _ => none
 | k + 1, x7, x8, x256000, x256001, x256002, x256003, x256004, x256005, x256006, x256007, x256008, x256009 => if x8 < (x7.length : Int) then (if x256001 = true then (spec_ReadDirs.l0 k x7 (wrap64 (x8 + 1)) x256000 true x256002 x256003 x256004 x256005 x256006 x256007 x256008 x256009) else (if 0 ≤ x8 then ((spec_Fold.f (rdOf ByteArray.empty x7 x8)).bind fun t268 => (spec_ReadDirs.l0 k x7 (wrap64 (x8 + 1)) x256000 (t268.toList == ([110, 111, 45, 99, 97, 99, 104, 101] : List UInt8)) x256002 x256003 x256004 x256005 x256006 x256007 x256008 x256009)) else (none))) else (some (x256000, x256001, x256002, x256003, x256004, x256005, x256006, x256007, x256008, x256009))
end
def spec_ReadDirs.f (k : Nat) (l0 : List (S71)) : Option (Bool × Bool × Bool × Bool × Bool × Bool × Int × Int × Int × Int) := (spec_Words.f k l0 (⟨#[99, 97, 99, 104, 101, 45, 99, 111, 110, 116, 114, 111, 108]⟩ : ByteArray)).bind fun t247 => ((spec_l12flag.f k t247 (⟨#[110, 111, 45, 115, 116, 111, 114, 101]⟩ : ByteArray)).bind fun t250 => ((spec_l12flag.f k t247 (⟨#[110, 111, 45, 99, 97, 99, 104, 101]⟩ : ByteArray)).bind fun t251 => ((spec_l12flag.f k t247 (⟨#[112, 114, 105, 118, 97, 116, 101]⟩ : ByteArray)).bind fun t252 => ((spec_l12flag.f k t247 (⟨#[112, 117, 98, 108, 105, 99]⟩ : ByteArray)).bind fun t253 => ((spec_l12flag.f k t247 (⟨#[111, 110, 108, 121, 45, 105, 102, 45, 99, 97, 99, 104, 101, 100]⟩ : ByteArray)).bind fun t254 => ((spec_l12flag.f k t247 (⟨#[109, 117, 115, 116, 45, 114, 101, 118, 97, 108, 105, 100, 97, 116, 101]⟩ : ByteArray)).bind fun t256 => (if t256 = true then (spec_ReadDirs.j0 k l0 t247 t250 t251 t252 t253 true t254 0 0 0 0) else ((spec_l12flag.f k t247 (⟨#[112, 114, 111, 120, 121, 45, 114, 101, 118, 97, 108, 105, 100, 97, 116, 101]⟩ : ByteArray)).bind fun t257 => (spec_ReadDirs.j0 k l0 t247 t250 t251 t252 t253 t257 t254 0 0 0 0)))))))))
theorem spec_ReadDirs.mono_l : ∀ k, (∀ y0 y1 y2 y3 y4 y5 y6 y7 y8 y9 y10 y11, LeO (spec_ReadDirs.j0 k y0 y1 y2 y3 y4 y5 y6 y7 y8 y9 y10 y11) (spec_ReadDirs.j0 (k + 1) y0 y1 y2 y3 y4 y5 y6 y7 y8 y9 y10 y11)) ∧ (∀ y0 y1 y2 y3 y4 y5 y6 y7 y8 y9 y10 y11, LeO (spec_ReadDirs.l0 k y0 y1 y2 y3 y4 y5 y6 y7 y8 y9 y10 y11) (spec_ReadDirs.l0 (k + 1) y0 y1 y2 y3 y4 y5 y6 y7 y8 y9 y10 y11))
 | 0 => ⟨fun _ _ _ _ _ _ _ _ _ _ _ _ r h => by simp [spec_ReadDirs.j0] at h, fun _ _ _ _ _ _ _ _ _ _ _ _ r h => by simp [spec_ReadDirs.l0] at h⟩
 | k + 1 => by
  obtain ⟨ih0, ih1⟩ := spec_ReadDirs.mono_l k
  refine ⟨?_, ?_⟩
  ·intro y0 y1 y2 y3 y4 y5 y6 y7 y8 y9 y10 y11
   unfold spec_ReadDirs.j0
   repeat' first
   | (with_reducible exact ih0 _ _ _ _ _ _ _ _ _ _ _ _)
   | (with_reducible exact ih1 _ _ _ _ _ _ _ _ _ _ _ _)
   | (with_reducible exact spec_Get.mono _ _ _)
   | (with_reducible exact spec_Words.mono _ _ _)
   | (with_reducible exact spec_l12flag.mono _ _ _)
   | (with_reducible exact spec_l12num.mono _ _ _ _ _)
   | (with_reducible exact LeO.refl _)
   | (with_reducible exact LeO.none _)
   | (with_reducible refine LeO.ite ?_ ?_)
   | (with_reducible refine LeO.bind ?_ (fun _ => ?_))
   | exact ih0 _ _ _ _ _ _ _ _ _ _ _ _
   | exact ih1 _ _ _ _ _ _ _ _ _ _ _ _
   | exact spec_Get.mono _ _ _
   | exact spec_Words.mono _ _ _
   | exact spec_l12flag.mono _ _ _
   | exact spec_l12num.mono _ _ _ _ _
   | exact LeO.none _
   | refine LeO.ite ?_ ?_
   | refine LeO.bind ?_ (fun _ => ?_)
  ·intro y0 y1 y2 y3 y4 y5 y6 y7 y8 y9 y10 y11
   unfold spec_ReadDirs.l0
   repeat' first
   | (with_reducible exact ih0 _ _ _ _ _ _ _ _ _ _ _ _)
   | (with_reducible exact ih1 _ _ _ _ _ _ _ _ _ _ _ _)
   | (with_reducible exact spec_Get.mono _ _ _)
   | (with_reducible exact spec_Words.mono _ _ _)
   | (with_reducible exact spec_l12flag.mono _ _ _)
   | (with_reducible exact spec_l12num.mono _ _ _ _ _)
   | (with_reducible exact LeO.refl _)
   | (with_reducible exact LeO.none _)
   | (with_reducible refine LeO.ite ?_ ?_)
   | (with_reducible refine LeO.bind ?_ (fun _ => ?_))
   | exact ih0 _ _ _ _ _ _ _ _ _ _ _ _
   | exact ih1 _ _ _ _ _ _ _ _ _ _ _ _
   | exact spec_Get.mono _ _ _
   | exact spec_Words.mono _ _ _
   | exact spec_l12flag.mono _ _ _
   | exact spec_l12num.mono _ _ _ _ _
   | exact LeO.none _
   | refine LeO.ite ?_ ?_
   | refine LeO.bind ?_ (fun _ => ?_)
theorem spec_ReadDirs.mono : ∀ a0 k, LeO (spec_ReadDirs.f k a0) (spec_ReadDirs.f (k + 1) a0) := by
 intro a0 k
 obtain ⟨ih0, ih1⟩ := spec_ReadDirs.mono_l k
 unfold spec_ReadDirs.f
 repeat' first
   | (with_reducible exact ih0 _ _ _ _ _ _ _ _ _ _ _ _)
   | (with_reducible exact ih1 _ _ _ _ _ _ _ _ _ _ _ _)
   | (with_reducible exact spec_Get.mono _ _ _)
   | (with_reducible exact spec_Words.mono _ _ _)
   | (with_reducible exact spec_l12flag.mono _ _ _)
   | (with_reducible exact spec_l12num.mono _ _ _ _ _)
   | (with_reducible exact LeO.refl _)
   | (with_reducible exact LeO.none _)
   | (with_reducible refine LeO.ite ?_ ?_)
   | (with_reducible refine LeO.bind ?_ (fun _ => ?_))
   | exact ih0 _ _ _ _ _ _ _ _ _ _ _ _
   | exact ih1 _ _ _ _ _ _ _ _ _ _ _ _
   | exact spec_Get.mono _ _ _
   | exact spec_Words.mono _ _ _
   | exact spec_l12flag.mono _ _ _
   | exact spec_l12num.mono _ _ _ _ _
   | exact LeO.none _
   | refine LeO.ite ?_ ?_
   | refine LeO.bind ?_ (fun _ => ?_)
set_option maxHeartbeats 8000000 in
set_option maxRecDepth 100000 in
theorem spec_ReadDirs.calls (k : Nat) (A0 : Option Addr) (c0 : Nat) (l0 : List (S71)) (r1 : Bool) (r2 : Bool) (r3 : Bool) (r4 : Bool) (r5 : Bool) (r6 : Bool) (r7 : Int) (r8 : Int) (r9 : Int) (r10 : Int) (w : World) (hr0 : Kd.C k71 w A0 l0.length l0) (hc0 : l0.length ≤ c0) (h : spec_ReadDirs.f k l0 = some (r1, r2, r3, r4, r5, r6, r7, r8, r9, r10)) :
  Calls Try.prog 62 #[.slice A0 l0.length c0] w fun e w' => e = .returned (.agg #[.bool r1, .bool r2, .bool r3, .bool r4, .bool r5, .bool r6, .int .i64 r7, .int .i64 r8, .int .i64 r9, .int .i64 r10]) ∧ Below w.heap.size w w' := by
 have hu25 := Try.underlying25
 have HR0 := Aside0.mk hr0
 have HC0 := Aside0.mk hc0
 clear hr0 hc0
 have HB := Aside0.mk (Below.refl w.heap.size w)
 have H : ((spec_Words.f k l0 (⟨#[99, 97, 99, 104, 101, 45, 99, 111, 110, 116, 114, 111, 108]⟩ : ByteArray)).bind fun t247 => ((spec_l12flag.f k t247 (⟨#[110, 111, 45, 115, 116, 111, 114, 101]⟩ : ByteArray)).bind fun t250 => ((spec_l12flag.f k t247 (⟨#[110, 111, 45, 99, 97, 99, 104, 101]⟩ : ByteArray)).bind fun t251 => ((spec_l12flag.f k t247 (⟨#[112, 114, 105, 118, 97, 116, 101]⟩ : ByteArray)).bind fun t252 => ((spec_l12flag.f k t247 (⟨#[112, 117, 98, 108, 105, 99]⟩ : ByteArray)).bind fun t253 => ((spec_l12flag.f k t247 (⟨#[111, 110, 108, 121, 45, 105, 102, 45, 99, 97, 99, 104, 101, 100]⟩ : ByteArray)).bind fun t254 => ((spec_l12flag.f k t247 (⟨#[109, 117, 115, 116, 45, 114, 101, 118, 97, 108, 105, 100, 97, 116, 101]⟩ : ByteArray)).bind fun t256 => (if t256 = true then (spec_ReadDirs.j0 k l0 t247 t250 t251 t252 t253 true t254 0 0 0 0) else ((spec_l12flag.f k t247 (⟨#[112, 114, 111, 120, 121, 45, 114, 101, 118, 97, 108, 105, 100, 97, 116, 101]⟩ : ByteArray)).bind fun t257 => (spec_ReadDirs.j0 k l0 t247 t250 t251 t252 t253 t257 t254 0 0 0 0)))))))))) = some (r1, r2, r3, r4, r5, r6, r7, r8, r9, r10) := h
 clear h
 replace H := Option.bind_eq_some_iff.mp H
 obtain ⟨t247, A20, H⟩ := H
 replace H : ((spec_l12flag.f k t247 (⟨#[110, 111, 45, 115, 116, 111, 114, 101]⟩ : ByteArray)).bind fun t250 => ((spec_l12flag.f k t247 (⟨#[110, 111, 45, 99, 97, 99, 104, 101]⟩ : ByteArray)).bind fun t251 => ((spec_l12flag.f k t247 (⟨#[112, 114, 105, 118, 97, 116, 101]⟩ : ByteArray)).bind fun t252 => ((spec_l12flag.f k t247 (⟨#[112, 117, 98, 108, 105, 99]⟩ : ByteArray)).bind fun t253 => ((spec_l12flag.f k t247 (⟨#[111, 110, 108, 121, 45, 105, 102, 45, 99, 97, 99, 104, 101, 100]⟩ : ByteArray)).bind fun t254 => ((spec_l12flag.f k t247 (⟨#[109, 117, 115, 116, 45, 114, 101, 118, 97, 108, 105, 100, 97, 116, 101]⟩ : ByteArray)).bind fun t256 => (if t256 = true then (spec_ReadDirs.j0 k l0 t247 t250 t251 t252 t253 true t254 0 0 0 0) else ((spec_l12flag.f k t247 (⟨#[112, 114, 111, 120, 121, 45, 114, 101, 118, 97, 108, 105, 100, 97, 116, 101]⟩ : ByteArray)).bind fun t257 => (spec_ReadDirs.j0 k l0 t247 t250 t251 t252 t253 t257 t254 0 0 0 0))))))))) = some (r1, r2, r3, r4, r5, r6, r7, r8, r9, r10) := H
 have A2 := Aside0.mk A20
 clear A20
 replace H := Option.bind_eq_some_iff.mp H
 obtain ⟨t250, A30, H⟩ := H
 replace H : ((spec_l12flag.f k t247 (⟨#[110, 111, 45, 99, 97, 99, 104, 101]⟩ : ByteArray)).bind fun t251 => ((spec_l12flag.f k t247 (⟨#[112, 114, 105, 118, 97, 116, 101]⟩ : ByteArray)).bind fun t252 => ((spec_l12flag.f k t247 (⟨#[112, 117, 98, 108, 105, 99]⟩ : ByteArray)).bind fun t253 => ((spec_l12flag.f k t247 (⟨#[111, 110, 108, 121, 45, 105, 102, 45, 99, 97, 99, 104, 101, 100]⟩ : ByteArray)).bind fun t254 => ((spec_l12flag.f k t247 (⟨#[109, 117, 115, 116, 45, 114, 101, 118, 97, 108, 105, 100, 97, 116, 101]⟩ : ByteArray)).bind fun t256 => (if t256 = true then (spec_ReadDirs.j0 k l0 t247 t250 t251 t252 t253 true t254 0 0 0 0) else ((spec_l12flag.f k t247 (⟨#[112, 114, 111, 120, 121, 45, 114, 101, 118, 97, 108, 105, 100, 97, 116, 101]⟩ : ByteArray)).bind fun t257 => (spec_ReadDirs.j0 k l0 t247 t250 t251 t252 t253 t257 t254 0 0 0 0)))))))) = some (r1, r2, r3, r4, r5, r6, r7, r8, r9, r10) := H
 have A3 := Aside0.mk A30
 clear A30
 replace H := Option.bind_eq_some_iff.mp H
 obtain ⟨t251, A40, H⟩ := H
 replace H : ((spec_l12flag.f k t247 (⟨#[112, 114, 105, 118, 97, 116, 101]⟩ : ByteArray)).bind fun t252 => ((spec_l12flag.f k t247 (⟨#[112, 117, 98, 108, 105, 99]⟩ : ByteArray)).bind fun t253 => ((spec_l12flag.f k t247 (⟨#[111, 110, 108, 121, 45, 105, 102, 45, 99, 97, 99, 104, 101, 100]⟩ : ByteArray)).bind fun t254 => ((spec_l12flag.f k t247 (⟨#[109, 117, 115, 116, 45, 114, 101, 118, 97, 108, 105, 100, 97, 116, 101]⟩ : ByteArray)).bind fun t256 => (if t256 = true then (spec_ReadDirs.j0 k l0 t247 t250 t251 t252 t253 true t254 0 0 0 0) else ((spec_l12flag.f k t247 (⟨#[112, 114, 111, 120, 121, 45, 114, 101, 118, 97, 108, 105, 100, 97, 116, 101]⟩ : ByteArray)).bind fun t257 => (spec_ReadDirs.j0 k l0 t247 t250 t251 t252 t253 t257 t254 0 0 0 0))))))) = some (r1, r2, r3, r4, r5, r6, r7, r8, r9, r10) := H
 have A4 := Aside0.mk A40
 clear A40
 replace H := Option.bind_eq_some_iff.mp H
 obtain ⟨t252, A50, H⟩ := H
 replace H : ((spec_l12flag.f k t247 (⟨#[112, 117, 98, 108, 105, 99]⟩ : ByteArray)).bind fun t253 => ((spec_l12flag.f k t247 (⟨#[111, 110, 108, 121, 45, 105, 102, 45, 99, 97, 99, 104, 101, 100]⟩ : ByteArray)).bind fun t254 => ((spec_l12flag.f k t247 (⟨#[109, 117, 115, 116, 45, 114, 101, 118, 97, 108, 105, 100, 97, 116, 101]⟩ : ByteArray)).bind fun t256 => (if t256 = true then (spec_ReadDirs.j0 k l0 t247 t250 t251 t252 t253 true t254 0 0 0 0) else ((spec_l12flag.f k t247 (⟨#[112, 114, 111, 120, 121, 45, 114, 101, 118, 97, 108, 105, 100, 97, 116, 101]⟩ : ByteArray)).bind fun t257 => (spec_ReadDirs.j0 k l0 t247 t250 t251 t252 t253 t257 t254 0 0 0 0)))))) = some (r1, r2, r3, r4, r5, r6, r7, r8, r9, r10) := H
 have A5 := Aside0.mk A50
 clear A50
 replace H := Option.bind_eq_some_iff.mp H
 obtain ⟨t253, A60, H⟩ := H
 replace H : ((spec_l12flag.f k t247 (⟨#[111, 110, 108, 121, 45, 105, 102, 45, 99, 97, 99, 104, 101, 100]⟩ : ByteArray)).bind fun t254 => ((spec_l12flag.f k t247 (⟨#[109, 117, 115, 116, 45, 114, 101, 118, 97, 108, 105, 100, 97, 116, 101]⟩ : ByteArray)).bind fun t256 => (if t256 = true then (spec_ReadDirs.j0 k l0 t247 t250 t251 t252 t253 true t254 0 0 0 0) else ((spec_l12flag.f k t247 (⟨#[112, 114, 111, 120, 121, 45, 114, 101, 118, 97, 108, 105, 100, 97, 116, 101]⟩ : ByteArray)).bind fun t257 => (spec_ReadDirs.j0 k l0 t247 t250 t251 t252 t253 t257 t254 0 0 0 0))))) = some (r1, r2, r3, r4, r5, r6, r7, r8, r9, r10) := H
 have A6 := Aside0.mk A60
 clear A60
 replace H := Option.bind_eq_some_iff.mp H
 obtain ⟨t254, A70, H⟩ := H
 replace H : ((spec_l12flag.f k t247 (⟨#[109, 117, 115, 116, 45, 114, 101, 118, 97, 108, 105, 100, 97, 116, 101]⟩ : ByteArray)).bind fun t256 => (if t256 = true then (spec_ReadDirs.j0 k l0 t247 t250 t251 t252 t253 true t254 0 0 0 0) else ((spec_l12flag.f k t247 (⟨#[112, 114, 111, 120, 121, 45, 114, 101, 118, 97, 108, 105, 100, 97, 116, 101]⟩ : ByteArray)).bind fun t257 => (spec_ReadDirs.j0 k l0 t247 t250 t251 t252 t253 t257 t254 0 0 0 0)))) = some (r1, r2, r3, r4, r5, r6, r7, r8, r9, r10) := H
 have A7 := Aside0.mk A70
 clear A70
 have HC8 := Aside0.mk H
 clear H
 go_enter Try.func62, Try.ntmps62
 go_upto_region 3 with (first | ((with_reducible refine gate_dst (N := 2) rfl ?_); refine box_event ?hg (N := 2) ?hd (cs := #[.bool false, .bool false, .bool false, .bool false, .bool false, .bool false, .int .i64 0, .int .i64 0, .int .i64 0, .int .i64 0]) (t := 25) ?hr ?_; (case hd => rfl); (case hg => rfl); (case hr => first | (go_simp; done) | (go_simp; rfl)); intro gb246 hg w9 hbox hb; have n0_ := Aside0.mk (below_step (by repeat (first | (with_reducible first | exact HB.out | apply below_alloc | apply pw_below_drewN | apply below_drew1) | exact HB.out)) hb); have n1_ := Aside0.mk (hbox); have n2_ := Aside0.mk ((by rw [hg]; exact (below_size (by repeat (first | (with_reducible first | exact HB.out | apply below_alloc | apply pw_below_drewN | apply below_drew1) | exact HB.out))) : w.heap.size ≤ gb246)); have n3_ := Aside0.mk ((by rw [hg]; exact (below_size (by repeat (first | (with_reducible first | exact HB.out | apply below_alloc | apply pw_below_drewN | apply below_drew1) | exact HB.out))) : w.heap.size ≤ gb246)); clear HB; have HB := n0_; have BK246 := n1_; have GW246 := n2_; have GE246 := n3_; clear n0_ n1_ n2_ n3_; clear hb hbox hg) | ((with_reducible refine gate_callee (f := 60) rfl ?_); refine goesL_ (some 10) rfl rfl Try.func60 (by kernel_rfl) rfl #[.slice A0 l0.length c0, .string (⟨#[99, 97, 99, 104, 101, 45, 99, 111, 110, 116, 114, 111, 108]⟩ : ByteArray)] rfl (by (try simp only [List.map_toArray, List.map_cons, List.map_nil]); first | done | rfl | (simp only [List.length_drop, List.length_take]; rfl)) ?_; (with_reducible refine (spec_Words.calls k _ _ l0 (⟨#[99, 97, 99, 104, 101, 45, 99, 111, 110, 116, 114, 111, 108]⟩ : ByteArray) t247 _ ?side1 ?side2 A2.out).mono ?_); (case side1 => repeat (first | exact (Kd.C_below HR0.out HB.out) | (with_reducible refine Kd.C_alloc ?_ _) | (with_reducible refine Kd.C_drewN ?_ _) | (with_reducible refine Kd.C_drew ?_))); (case side2 => exact HC0.out); rintro e w10 ⟨v248, rfl, ho0, hb⟩; refine ⟨_, rfl, ?_⟩; have n0_ := Aside0.mk (Kd.R_lower ho0 (below_size (by repeat (first | (with_reducible first | exact HB.out | apply below_alloc | apply pw_below_drewN | apply below_drew1 | refine below_set ?_ GE246.out) | exact HB.out)))); have n1_ := Aside0.mk (blk_below (g := gb246) (o := .cells #[.bool false, .bool false, .bool false, .bool false, .bool false, .bool false, .int .i64 0, .int .i64 0, .int .i64 0, .int .i64 0] 25 (0, 0)) (by (with_reducible repeat (first | refine blk_drewN ?_ _ | refine blk_drew ?_ | refine blk_alloc ?_ _)); exact BK246.out) hb); have n2_ := Aside0.mk (below_step (by repeat (first | (with_reducible first | exact HB.out | apply below_alloc | apply pw_below_drewN | apply below_drew1 | refine below_set ?_ GE246.out) | exact HB.out)) hb); clear BK246; clear HB; have HO249 := n0_; have BK246 := n1_; have HB := n2_; clear n0_ n1_ n2_; (try clear hb); (try clear hb2); (try clear hk); (try clear hi); (try clear ho0); obtain ⟨Ao11, co11, eo11⟩ := Kd.R_slice HO249.out; subst eo11) | ((with_reducible refine gate_callee (f := 105) rfl ?_); refine goesL_ (some 12) rfl rfl Try.func105 (by kernel_rfl) rfl #[.slice Ao11 t247.length co11, .string (⟨#[110, 111, 45, 115, 116, 111, 114, 101]⟩ : ByteArray)] rfl (by (try simp only [List.map_toArray, List.map_cons, List.map_nil]); first | done | rfl | (simp only [List.length_drop, List.length_take]; rfl)) ?_; (with_reducible refine (spec_l12flag.calls k _ _ t247 (⟨#[110, 111, 45, 115, 116, 111, 114, 101]⟩ : ByteArray) t250 _ ?side1 ?side2 A3.out).mono ?_); (case side1 => repeat (first | exact (Kd.R_reads' HO249.out).2.2 | (with_reducible refine Kd.C_alloc ?_ _) | (with_reducible refine Kd.C_drewN ?_ _) | (with_reducible refine Kd.C_drew ?_))); (case side2 => exact (Kd.R_reads' HO249.out).2.1); rintro e w12 ⟨rfl, hb⟩; refine ⟨_, rfl, ?_⟩; have n0_ := Aside0.mk (Kd.R_below (by (with_reducible repeat (first | apply Kd.R_alloc | apply Kd.R_drewN | apply Kd.R_drew)); exact HO249.out) hb); have n1_ := Aside0.mk (blk_below (g := gb246) (o := .cells #[.bool false, .bool false, .bool false, .bool false, .bool false, .bool false, .int .i64 0, .int .i64 0, .int .i64 0, .int .i64 0] 25 (0, 0)) (by (with_reducible repeat (first | refine blk_drewN ?_ _ | refine blk_drew ?_ | refine blk_alloc ?_ _)); exact BK246.out) hb); have n2_ := Aside0.mk (below_step (by repeat (first | (with_reducible first | exact HB.out | apply below_alloc | apply pw_below_drewN | apply below_drew1 | refine below_set ?_ GE246.out) | exact HB.out)) hb); clear HO249; clear BK246; clear HB; have HO249 := n0_; have BK246 := n1_; have HB := n2_; clear n0_ n1_ n2_; (try clear hb); (try clear hb2); (try clear hk); (try clear hi)) | ((with_reducible refine gate_callee (f := 105) rfl ?_); refine goesL_ (some 14) rfl rfl Try.func105 (by kernel_rfl) rfl #[.slice Ao11 t247.length co11, .string (⟨#[110, 111, 45, 99, 97, 99, 104, 101]⟩ : ByteArray)] rfl (by (try simp only [List.map_toArray, List.map_cons, List.map_nil]); first | done | rfl | (simp only [List.length_drop, List.length_take]; rfl)) ?_; (with_reducible refine (spec_l12flag.calls k _ _ t247 (⟨#[110, 111, 45, 99, 97, 99, 104, 101]⟩ : ByteArray) t251 _ ?side1 ?side2 A4.out).mono ?_); (case side1 => repeat (first | exact (Kd.R_reads' HO249.out).2.2 | (with_reducible refine Kd.C_alloc ?_ _) | (with_reducible refine Kd.C_drewN ?_ _) | (with_reducible refine Kd.C_drew ?_))); (case side2 => exact (Kd.R_reads' HO249.out).2.1); rintro e w13 ⟨rfl, hb⟩; refine ⟨_, rfl, ?_⟩; have n0_ := Aside0.mk (Kd.R_below (by (with_reducible repeat (first | apply Kd.R_alloc | apply Kd.R_drewN | apply Kd.R_drew)); exact HO249.out) hb); have n1_ := Aside0.mk (blk_below (g := gb246) (o := .cells #[.bool false, .bool false, .bool false, .bool false, .bool false, .bool false, .int .i64 0, .int .i64 0, .int .i64 0, .int .i64 0] 25 (0, 0)) (by (with_reducible repeat (first | refine blk_drewN ?_ _ | refine blk_drew ?_ | refine blk_alloc ?_ _)); exact BK246.out) hb); have n2_ := Aside0.mk (below_step (by repeat (first | (with_reducible first | exact HB.out | apply below_alloc | apply pw_below_drewN | apply below_drew1 | refine below_set ?_ GE246.out) | exact HB.out)) hb); clear HO249; clear BK246; clear HB; have HO249 := n0_; have BK246 := n1_; have HB := n2_; clear n0_ n1_ n2_; (try clear hb); (try clear hb2); (try clear hk); (try clear hi)) | ((with_reducible refine gate_callee (f := 105) rfl ?_); refine goesL_ (some 16) rfl rfl Try.func105 (by kernel_rfl) rfl #[.slice Ao11 t247.length co11, .string (⟨#[112, 114, 105, 118, 97, 116, 101]⟩ : ByteArray)] rfl (by (try simp only [List.map_toArray, List.map_cons, List.map_nil]); first | done | rfl | (simp only [List.length_drop, List.length_take]; rfl)) ?_; (with_reducible refine (spec_l12flag.calls k _ _ t247 (⟨#[112, 114, 105, 118, 97, 116, 101]⟩ : ByteArray) t252 _ ?side1 ?side2 A5.out).mono ?_); (case side1 => repeat (first | exact (Kd.R_reads' HO249.out).2.2 | (with_reducible refine Kd.C_alloc ?_ _) | (with_reducible refine Kd.C_drewN ?_ _) | (with_reducible refine Kd.C_drew ?_))); (case side2 => exact (Kd.R_reads' HO249.out).2.1); rintro e w14 ⟨rfl, hb⟩; refine ⟨_, rfl, ?_⟩; have n0_ := Aside0.mk (Kd.R_below (by (with_reducible repeat (first | apply Kd.R_alloc | apply Kd.R_drewN | apply Kd.R_drew)); exact HO249.out) hb); have n1_ := Aside0.mk (blk_below (g := gb246) (o := .cells #[.bool false, .bool false, .bool false, .bool false, .bool false, .bool false, .int .i64 0, .int .i64 0, .int .i64 0, .int .i64 0] 25 (0, 0)) (by (with_reducible repeat (first | refine blk_drewN ?_ _ | refine blk_drew ?_ | refine blk_alloc ?_ _)); exact BK246.out) hb); have n2_ := Aside0.mk (below_step (by repeat (first | (with_reducible first | exact HB.out | apply below_alloc | apply pw_below_drewN | apply below_drew1 | refine below_set ?_ GE246.out) | exact HB.out)) hb); clear HO249; clear BK246; clear HB; have HO249 := n0_; have BK246 := n1_; have HB := n2_; clear n0_ n1_ n2_; (try clear hb); (try clear hb2); (try clear hk); (try clear hi)) | ((with_reducible refine gate_callee (f := 105) rfl ?_); refine goesL_ (some 18) rfl rfl Try.func105 (by kernel_rfl) rfl #[.slice Ao11 t247.length co11, .string (⟨#[112, 117, 98, 108, 105, 99]⟩ : ByteArray)] rfl (by (try simp only [List.map_toArray, List.map_cons, List.map_nil]); first | done | rfl | (simp only [List.length_drop, List.length_take]; rfl)) ?_; (with_reducible refine (spec_l12flag.calls k _ _ t247 (⟨#[112, 117, 98, 108, 105, 99]⟩ : ByteArray) t253 _ ?side1 ?side2 A6.out).mono ?_); (case side1 => repeat (first | exact (Kd.R_reads' HO249.out).2.2 | (with_reducible refine Kd.C_alloc ?_ _) | (with_reducible refine Kd.C_drewN ?_ _) | (with_reducible refine Kd.C_drew ?_))); (case side2 => exact (Kd.R_reads' HO249.out).2.1); rintro e w15 ⟨rfl, hb⟩; refine ⟨_, rfl, ?_⟩; have n0_ := Aside0.mk (Kd.R_below (by (with_reducible repeat (first | apply Kd.R_alloc | apply Kd.R_drewN | apply Kd.R_drew)); exact HO249.out) hb); have n1_ := Aside0.mk (blk_below (g := gb246) (o := .cells #[.bool false, .bool false, .bool false, .bool false, .bool false, .bool false, .int .i64 0, .int .i64 0, .int .i64 0, .int .i64 0] 25 (0, 0)) (by (with_reducible repeat (first | refine blk_drewN ?_ _ | refine blk_drew ?_ | refine blk_alloc ?_ _)); exact BK246.out) hb); have n2_ := Aside0.mk (below_step (by repeat (first | (with_reducible first | exact HB.out | apply below_alloc | apply pw_below_drewN | apply below_drew1 | refine below_set ?_ GE246.out) | exact HB.out)) hb); clear HO249; clear BK246; clear HB; have HO249 := n0_; have BK246 := n1_; have HB := n2_; clear n0_ n1_ n2_; (try clear hb); (try clear hb2); (try clear hk); (try clear hi)) | ((with_reducible refine gate_callee (f := 105) rfl ?_); refine goesL_ (some 20) rfl rfl Try.func105 (by kernel_rfl) rfl #[.slice Ao11 t247.length co11, .string (⟨#[111, 110, 108, 121, 45, 105, 102, 45, 99, 97, 99, 104, 101, 100]⟩ : ByteArray)] rfl (by (try simp only [List.map_toArray, List.map_cons, List.map_nil]); first | done | rfl | (simp only [List.length_drop, List.length_take]; rfl)) ?_; (with_reducible refine (spec_l12flag.calls k _ _ t247 (⟨#[111, 110, 108, 121, 45, 105, 102, 45, 99, 97, 99, 104, 101, 100]⟩ : ByteArray) t254 _ ?side1 ?side2 A7.out).mono ?_); (case side1 => repeat (first | exact (Kd.R_reads' HO249.out).2.2 | (with_reducible refine Kd.C_alloc ?_ _) | (with_reducible refine Kd.C_drewN ?_ _) | (with_reducible refine Kd.C_drew ?_))); (case side2 => exact (Kd.R_reads' HO249.out).2.1); rintro e w16 ⟨rfl, hb⟩; refine ⟨_, rfl, ?_⟩; have n0_ := Aside0.mk (Kd.R_below (by (with_reducible repeat (first | apply Kd.R_alloc | apply Kd.R_drewN | apply Kd.R_drew)); exact HO249.out) hb); have n1_ := Aside0.mk (blk_below (g := gb246) (o := .cells #[.bool false, .bool false, .bool false, .bool false, .bool false, .bool false, .int .i64 0, .int .i64 0, .int .i64 0, .int .i64 0] 25 (0, 0)) (by (with_reducible repeat (first | refine blk_drewN ?_ _ | refine blk_drew ?_ | refine blk_alloc ?_ _)); exact BK246.out) hb); have n2_ := Aside0.mk (below_step (by repeat (first | (with_reducible first | exact HB.out | apply below_alloc | apply pw_below_drewN | apply below_drew1 | refine below_set ?_ GE246.out) | exact HB.out)) hb); clear HO249; clear BK246; clear HB; have HO249 := n0_; have BK246 := n1_; have HB := n2_; clear n0_ n1_ n2_; (try clear hb); (try clear hb2); (try clear hk); (try clear hi)) | ((with_reducible refine gate_dst (N := 4) rfl ?_); refine box_event ?hg (N := 4) ?hd (cs := #[.bool false, .bool false, .bool false, .bool false, .bool false, .bool false, .int .i64 0, .int .i64 0, .int .i64 0, .int .i64 0]) (t := 25) ?hr ?_; (case hd => rfl); (case hg => rfl); (case hr => first | (go_simp; done) | (go_simp; rfl)); intro gb255 hg w17 hbox hb; have n0_ := Aside0.mk (Kd.R_below (by (with_reducible repeat (first | apply Kd.R_alloc | apply Kd.R_drewN | apply Kd.R_drew)); exact HO249.out) hb); have n1_ := Aside0.mk (blk_below (g := gb246) (o := .cells #[.bool false, .bool false, .bool false, .bool false, .bool false, .bool false, .int .i64 0, .int .i64 0, .int .i64 0, .int .i64 0] 25 (0, 0)) (by (with_reducible repeat (first | refine blk_drewN ?_ _ | refine blk_drew ?_ | refine blk_alloc ?_ _)); exact BK246.out) hb); have n2_ := Aside0.mk (below_step (by repeat (first | (with_reducible first | exact HB.out | apply below_alloc | apply pw_below_drewN | apply below_drew1 | refine below_set ?_ GE246.out) | exact HB.out)) hb); have n3_ := Aside0.mk (hbox); have n4_ := Aside0.mk ((by rw [hg]; exact (below_size (by repeat (first | (with_reducible first | exact HB.out | apply below_alloc | apply pw_below_drewN | apply below_drew1 | refine below_set ?_ GE246.out) | exact HB.out))) : w.heap.size ≤ gb255)); have n5_ := Aside0.mk ((by rw [hg]; exact (below_size (by repeat (first | (with_reducible first | exact HB.out | apply below_alloc | apply pw_below_drewN | apply below_drew1 | refine below_set ?_ GE246.out) | exact HB.out))) : w.heap.size ≤ gb255)); have n6_ := Aside0.mk ((by rw [hg]; exact Nat.ne_of_lt (blk_lt (g := gb246) (o := .cells #[.bool false, .bool false, .bool false, .bool false, .bool false, .bool false, .int .i64 0, .int .i64 0, .int .i64 0, .int .i64 0] 25 (0, 0)) (by (with_reducible repeat (first | refine blk_drewN ?_ _ | refine blk_drew ?_ | refine blk_alloc ?_ _)); exact BK246.out)) : gb246 ≠ gb255)); have n7_ := Aside0.mk ((by rw [hg]; exact Nat.ne_of_gt (blk_lt (g := gb246) (o := .cells #[.bool false, .bool false, .bool false, .bool false, .bool false, .bool false, .int .i64 0, .int .i64 0, .int .i64 0, .int .i64 0] 25 (0, 0)) (by (with_reducible repeat (first | refine blk_drewN ?_ _ | refine blk_drew ?_ | refine blk_alloc ?_ _)); exact BK246.out)) : gb255 ≠ gb246)); clear HO249; clear BK246; clear HB; have HO249 := n0_; have BK246 := n1_; have HB := n2_; have BK255 := n3_; have GW255 := n4_; have GE255 := n5_; have NB246_255 := n6_; have NB255_246 := n7_; clear n0_ n1_ n2_ n3_ n4_ n5_ n6_ n7_; clear hb hbox hg; have hnb18 := NB255_246.out; have hnc18 := NB246_255.out; have hcz19_0 : w17.cell? ⟨gb255, 0, none⟩ = some (.bool false) := (blk_cell BK255.out 0).trans rfl; have hcz19_1 : w17.cell? ⟨gb255, 1, none⟩ = some (.bool false) := (blk_cell BK255.out 1).trans rfl; have hcz19_2 : w17.cell? ⟨gb255, 2, none⟩ = some (.bool false) := (blk_cell BK255.out 2).trans rfl; have hcz19_3 : w17.cell? ⟨gb255, 3, none⟩ = some (.bool false) := (blk_cell BK255.out 3).trans rfl; have hcz19_4 : w17.cell? ⟨gb255, 4, none⟩ = some (.bool false) := (blk_cell BK255.out 4).trans rfl; have hcz19_5 : w17.cell? ⟨gb255, 5, none⟩ = some (.bool false) := (blk_cell BK255.out 5).trans rfl; have hcz19_6 : w17.cell? ⟨gb255, 6, none⟩ = some (.int .i64 0) := (blk_cell BK255.out 6).trans rfl; have hcz19_7 : w17.cell? ⟨gb255, 7, none⟩ = some (.int .i64 0) := (blk_cell BK255.out 7).trans rfl; have hcz19_8 : w17.cell? ⟨gb255, 8, none⟩ = some (.int .i64 0) := (blk_cell BK255.out 8).trans rfl; have hcz19_9 : w17.cell? ⟨gb255, 9, none⟩ = some (.int .i64 0) := (blk_cell BK255.out 9).trans rfl; have hfz19_0 := blk_frozen BK255.out 0; have hfz19_1 := blk_frozen BK255.out 1; have hfz19_2 := blk_frozen BK255.out 2; have hfz19_3 := blk_frozen BK255.out 3; have hfz19_4 := blk_frozen BK255.out 4; have hfz19_5 := blk_frozen BK255.out 5; have hfz19_6 := blk_frozen BK255.out 6; have hfz19_7 := blk_frozen BK255.out 7; have hfz19_8 := blk_frozen BK255.out 8; have hfz19_9 := blk_frozen BK255.out 9))
 (try simp only [Act.put, List.setIfInBounds_toArray, List.set_cons_zero, List.set_cons_succ])
 go_cut [] (fun wc => ∃ (kq : Nat) (x256004_7 : Bool), Aside0 (spec_ReadDirs.j0 kq l0 t247 t250 t251 t252 t253 x256004_7 t254 0 0 0 0 = some (r1, r2, r3, r4, r5, r6, r7, r8, r9, r10)) ∧ Aside0 (kq ≤ k) ∧ Aside0 (Kd.R Kd.string 9 wc w.heap.size (fun _ => True) (.slice Ao11 t247.length co11) t247) ∧ Aside0 (wc.heap[gb246]? = some (.cells #[.bool false, .bool false, .bool false, .bool false, .bool false, .bool false, .int .i64 0, .int .i64 0, .int .i64 0, .int .i64 0] 25 (0, 0))) ∧ Aside0 (wc.heap[gb255]? = some (.cells #[.bool t250, .bool t251, .bool t252, .bool t253, .bool x256004_7, .bool t254, .int .i64 0, .int .i64 0, .int .i64 0, .int .i64 0] 25 (0, 0))) ∧ Aside0 (Below w.heap.size w wc))
 case first =>
  have H := HC8.out
  clear HC8
  replace H := Option.bind_eq_some_iff.mp H
  obtain ⟨t256, A200, H⟩ := H
  replace H : (if t256 = true then (spec_ReadDirs.j0 k l0 t247 t250 t251 t252 t253 true t254 0 0 0 0) else ((spec_l12flag.f k t247 (⟨#[112, 114, 111, 120, 121, 45, 114, 101, 118, 97, 108, 105, 100, 97, 116, 101]⟩ : ByteArray)).bind fun t257 => (spec_ReadDirs.j0 k l0 t247 t250 t251 t252 t253 t257 t254 0 0 0 0))) = some (r1, r2, r3, r4, r5, r6, r7, r8, r9, r10) := H
  have A20 := Aside0.mk A200
  clear A200
  by_cases c21 : t256 = true
  ·subst c21
   have H1 : (spec_ReadDirs.j0 k l0 t247 t250 t251 t252 t253 true t254 0 0 0 0) = some (r1, r2, r3, r4, r5, r6, r7, r8, r9, r10) := by rw [if_pos rfl] at H; exact H
   clear H
   have H := H1
   clear H1
   have H' := Aside0.mk H
   clear H
   go_wp2_with (first | ((with_reducible refine gate_callee (f := 105) rfl ?_); refine goesL_ (some 23) rfl rfl Try.func105 (by kernel_rfl) rfl #[.slice Ao11 t247.length co11, .string (⟨#[109, 117, 115, 116, 45, 114, 101, 118, 97, 108, 105, 100, 97, 116, 101]⟩ : ByteArray)] rfl (by (try simp only [List.map_toArray, List.map_cons, List.map_nil]); first | done | rfl | (simp only [List.length_drop, List.length_take]; rfl)) ?_; (with_reducible refine (spec_l12flag.calls k _ _ t247 (⟨#[109, 117, 115, 116, 45, 114, 101, 118, 97, 108, 105, 100, 97, 116, 101]⟩ : ByteArray) true _ ?side1 ?side2 A20.out).mono ?_); (case side1 => refine (Kd.R_reads' (e := 9) (base := w.heap.size) (ok := fun k_ => True) (n := t247.length) (c := co11) ?_).2.2; exact (by (with_reducible repeat (first | apply Kd.R_alloc | apply Kd.R_drewN | apply Kd.R_drew)); exact (Kd.R_mono (Kd.R_far (p := ⟨gb255, 9, none⟩) (Kd.R_far (p := ⟨gb255, 8, none⟩) (Kd.R_far (p := ⟨gb255, 7, none⟩) (Kd.R_far (p := ⟨gb255, 6, none⟩) (Kd.R_far (p := ⟨gb255, 5, none⟩) (Kd.R_far (p := ⟨gb255, 4, none⟩) (Kd.R_far (p := ⟨gb255, 3, none⟩) (Kd.R_far (p := ⟨gb255, 2, none⟩) (Kd.R_far (p := ⟨gb255, 1, none⟩) (Kd.R_far (p := ⟨gb255, 0, none⟩) (Kd.R_types HO249.out BK255.out (by decide)) (fun _ hk => hk.2) (.bool t250)) (fun _ hk => hk.2) (.bool t251)) (fun _ hk => hk.2) (.bool t252)) (fun _ hk => hk.2) (.bool t253)) (fun _ hk => hk.2) (.bool false)) (fun _ hk => hk.2) (.bool t254)) (fun _ hk => hk.2) (.int .i64 0)) (fun _ hk => hk.2) (.int .i64 0)) (fun _ hk => hk.2) (.int .i64 0)) (fun _ hk => hk.2) (.int .i64 0)) (fun _ h_ => h_.1)))); (case side2 => exact (Kd.R_reads' HO249.out).2.1); rintro e w22 ⟨rfl, hb⟩; refine ⟨_, rfl, ?_⟩; have n0_ := Aside0.mk (Kd.R_below (by (with_reducible repeat (first | apply Kd.R_alloc | apply Kd.R_drewN | apply Kd.R_drew)); exact (Kd.R_mono (Kd.R_far (p := ⟨gb255, 9, none⟩) (Kd.R_far (p := ⟨gb255, 8, none⟩) (Kd.R_far (p := ⟨gb255, 7, none⟩) (Kd.R_far (p := ⟨gb255, 6, none⟩) (Kd.R_far (p := ⟨gb255, 5, none⟩) (Kd.R_far (p := ⟨gb255, 4, none⟩) (Kd.R_far (p := ⟨gb255, 3, none⟩) (Kd.R_far (p := ⟨gb255, 2, none⟩) (Kd.R_far (p := ⟨gb255, 1, none⟩) (Kd.R_far (p := ⟨gb255, 0, none⟩) (Kd.R_types HO249.out BK255.out (by decide)) (fun _ hk => hk.2) (.bool t250)) (fun _ hk => hk.2) (.bool t251)) (fun _ hk => hk.2) (.bool t252)) (fun _ hk => hk.2) (.bool t253)) (fun _ hk => hk.2) (.bool false)) (fun _ hk => hk.2) (.bool t254)) (fun _ hk => hk.2) (.int .i64 0)) (fun _ hk => hk.2) (.int .i64 0)) (fun _ hk => hk.2) (.int .i64 0)) (fun _ hk => hk.2) (.int .i64 0)) (fun _ h_ => h_.1))) hb); have n1_ := Aside0.mk (blk_below (g := gb246) (o := .cells #[.bool false, .bool false, .bool false, .bool false, .bool false, .bool false, .int .i64 0, .int .i64 0, .int .i64 0, .int .i64 0] 25 (0, 0)) (by (with_reducible repeat (first | refine blk_drewN ?_ _ | refine blk_drew ?_ | refine blk_alloc ?_ _)); refine blk_far ?_ NB246_255.out _; (with_reducible repeat (first | refine blk_drewN ?_ _ | refine blk_drew ?_ | refine blk_alloc ?_ _)); refine blk_far ?_ NB246_255.out _; (with_reducible repeat (first | refine blk_drewN ?_ _ | refine blk_drew ?_ | refine blk_alloc ?_ _)); refine blk_far ?_ NB246_255.out _; (with_reducible repeat (first | refine blk_drewN ?_ _ | refine blk_drew ?_ | refine blk_alloc ?_ _)); refine blk_far ?_ NB246_255.out _; (with_reducible repeat (first | refine blk_drewN ?_ _ | refine blk_drew ?_ | refine blk_alloc ?_ _)); refine blk_far ?_ NB246_255.out _; (with_reducible repeat (first | refine blk_drewN ?_ _ | refine blk_drew ?_ | refine blk_alloc ?_ _)); refine blk_far ?_ NB246_255.out _; (with_reducible repeat (first | refine blk_drewN ?_ _ | refine blk_drew ?_ | refine blk_alloc ?_ _)); refine blk_far ?_ NB246_255.out _; (with_reducible repeat (first | refine blk_drewN ?_ _ | refine blk_drew ?_ | refine blk_alloc ?_ _)); refine blk_far ?_ NB246_255.out _; (with_reducible repeat (first | refine blk_drewN ?_ _ | refine blk_drew ?_ | refine blk_alloc ?_ _)); refine blk_far ?_ NB246_255.out _; (with_reducible repeat (first | refine blk_drewN ?_ _ | refine blk_drew ?_ | refine blk_alloc ?_ _)); refine blk_far ?_ NB246_255.out _; (with_reducible repeat (first | refine blk_drewN ?_ _ | refine blk_drew ?_ | refine blk_alloc ?_ _)); exact BK246.out) hb); have n2_ := Aside0.mk (blk_below (g := gb255) (o := .cells #[.bool t250, .bool t251, .bool t252, .bool t253, .bool false, .bool t254, .int .i64 0, .int .i64 0, .int .i64 0, .int .i64 0] 25 (0, 0)) (by (with_reducible repeat (first | refine blk_drewN ?_ _ | refine blk_drew ?_ | refine blk_alloc ?_ _)); refine blk_put (cs := #[.bool t250, .bool t251, .bool t252, .bool t253, .bool false, .bool t254, .int .i64 0, .int .i64 0, .int .i64 0, .int .i64 0]) ?_ 9 _ rfl; (with_reducible repeat (first | refine blk_drewN ?_ _ | refine blk_drew ?_ | refine blk_alloc ?_ _)); refine blk_put (cs := #[.bool t250, .bool t251, .bool t252, .bool t253, .bool false, .bool t254, .int .i64 0, .int .i64 0, .int .i64 0, .int .i64 0]) ?_ 8 _ rfl; (with_reducible repeat (first | refine blk_drewN ?_ _ | refine blk_drew ?_ | refine blk_alloc ?_ _)); refine blk_put (cs := #[.bool t250, .bool t251, .bool t252, .bool t253, .bool false, .bool t254, .int .i64 0, .int .i64 0, .int .i64 0, .int .i64 0]) ?_ 7 _ rfl; (with_reducible repeat (first | refine blk_drewN ?_ _ | refine blk_drew ?_ | refine blk_alloc ?_ _)); refine blk_put (cs := #[.bool t250, .bool t251, .bool t252, .bool t253, .bool false, .bool t254, .int .i64 0, .int .i64 0, .int .i64 0, .int .i64 0]) ?_ 6 _ rfl; (with_reducible repeat (first | refine blk_drewN ?_ _ | refine blk_drew ?_ | refine blk_alloc ?_ _)); refine blk_put (cs := #[.bool t250, .bool t251, .bool t252, .bool t253, .bool false, .bool false, .int .i64 0, .int .i64 0, .int .i64 0, .int .i64 0]) ?_ 5 _ rfl; (with_reducible repeat (first | refine blk_drewN ?_ _ | refine blk_drew ?_ | refine blk_alloc ?_ _)); refine blk_put (cs := #[.bool t250, .bool t251, .bool t252, .bool t253, .bool false, .bool false, .int .i64 0, .int .i64 0, .int .i64 0, .int .i64 0]) ?_ 4 _ rfl; (with_reducible repeat (first | refine blk_drewN ?_ _ | refine blk_drew ?_ | refine blk_alloc ?_ _)); refine blk_put (cs := #[.bool t250, .bool t251, .bool t252, .bool false, .bool false, .bool false, .int .i64 0, .int .i64 0, .int .i64 0, .int .i64 0]) ?_ 3 _ rfl; (with_reducible repeat (first | refine blk_drewN ?_ _ | refine blk_drew ?_ | refine blk_alloc ?_ _)); refine blk_put (cs := #[.bool t250, .bool t251, .bool false, .bool false, .bool false, .bool false, .int .i64 0, .int .i64 0, .int .i64 0, .int .i64 0]) ?_ 2 _ rfl; (with_reducible repeat (first | refine blk_drewN ?_ _ | refine blk_drew ?_ | refine blk_alloc ?_ _)); refine blk_put (cs := #[.bool t250, .bool false, .bool false, .bool false, .bool false, .bool false, .int .i64 0, .int .i64 0, .int .i64 0, .int .i64 0]) ?_ 1 _ rfl; (with_reducible repeat (first | refine blk_drewN ?_ _ | refine blk_drew ?_ | refine blk_alloc ?_ _)); refine blk_put (cs := #[.bool false, .bool false, .bool false, .bool false, .bool false, .bool false, .int .i64 0, .int .i64 0, .int .i64 0, .int .i64 0]) ?_ 0 _ rfl; (with_reducible repeat (first | refine blk_drewN ?_ _ | refine blk_drew ?_ | refine blk_alloc ?_ _)); exact BK255.out) hb); have n3_ := Aside0.mk (below_step (by repeat (first | (with_reducible first | exact HB.out | apply below_alloc | apply pw_below_drewN | apply below_drew1 | refine below_set ?_ GE246.out | refine below_set ?_ GE255.out) | exact HB.out)) hb); clear HO249; clear BK246; clear BK255; clear HB; have HO249 := n0_; have BK246 := n1_; have BK255 := n2_; have HB := n3_; clear n0_ n1_ n2_ n3_; (try clear hb); (try clear hb2); (try clear hk); (try clear hi); have hnb23 := NB255_246.out; have hnc23 := NB246_255.out; have hcz24_0 : w22.cell? ⟨gb255, 0, none⟩ = some (.bool t250) := (blk_cell BK255.out 0).trans rfl; have hcz24_1 : w22.cell? ⟨gb255, 1, none⟩ = some (.bool t251) := (blk_cell BK255.out 1).trans rfl; have hcz24_2 : w22.cell? ⟨gb255, 2, none⟩ = some (.bool t252) := (blk_cell BK255.out 2).trans rfl; have hcz24_3 : w22.cell? ⟨gb255, 3, none⟩ = some (.bool t253) := (blk_cell BK255.out 3).trans rfl; have hcz24_4 : w22.cell? ⟨gb255, 4, none⟩ = some (.bool false) := (blk_cell BK255.out 4).trans rfl; have hcz24_5 : w22.cell? ⟨gb255, 5, none⟩ = some (.bool t254) := (blk_cell BK255.out 5).trans rfl; have hcz24_6 : w22.cell? ⟨gb255, 6, none⟩ = some (.int .i64 0) := (blk_cell BK255.out 6).trans rfl; have hcz24_7 : w22.cell? ⟨gb255, 7, none⟩ = some (.int .i64 0) := (blk_cell BK255.out 7).trans rfl; have hcz24_8 : w22.cell? ⟨gb255, 8, none⟩ = some (.int .i64 0) := (blk_cell BK255.out 8).trans rfl; have hcz24_9 : w22.cell? ⟨gb255, 9, none⟩ = some (.int .i64 0) := (blk_cell BK255.out 9).trans rfl; have hfz24_0 := blk_frozen BK255.out 0; have hfz24_1 := blk_frozen BK255.out 1; have hfz24_2 := blk_frozen BK255.out 2; have hfz24_3 := blk_frozen BK255.out 3; have hfz24_4 := blk_frozen BK255.out 4; have hfz24_5 := blk_frozen BK255.out 5; have hfz24_6 := blk_frozen BK255.out 6; have hfz24_7 := blk_frozen BK255.out 7; have hfz24_8 := blk_frozen BK255.out 8; have hfz24_9 := blk_frozen BK255.out 9))
   go_meet
   case rel => exact ⟨_, (true), H', ⟨by first | omega | exact Nat.le_refl _⟩, ⟨by (with_reducible repeat (first | apply Kd.R_alloc | apply Kd.R_drewN | apply Kd.R_drew)); exact Kd.R_mono (Kd.R_far (p := ⟨gb255, 4, none⟩) (Kd.R_types HO249.out BK255.out (by decide)) (fun _ hk => hk.2) (.bool true)) (fun _ hk => trivial)⟩, ⟨by (with_reducible repeat (first | refine blk_drewN ?_ _ | refine blk_drew ?_ | refine blk_alloc ?_ _)); refine blk_far ?_ NB246_255.out _; (with_reducible repeat (first | refine blk_drewN ?_ _ | refine blk_drew ?_ | refine blk_alloc ?_ _)); exact BK246.out⟩, ⟨by (with_reducible repeat (first | refine blk_drewN ?_ _ | refine blk_drew ?_ | refine blk_alloc ?_ _)); refine blk_put (cs := #[.bool t250, .bool t251, .bool t252, .bool t253, .bool false, .bool t254, .int .i64 0, .int .i64 0, .int .i64 0, .int .i64 0]) ?_ 4 _ rfl; (with_reducible repeat (first | refine blk_drewN ?_ _ | refine blk_drew ?_ | refine blk_alloc ?_ _)); exact BK255.out⟩, ⟨by repeat (first | (with_reducible first | exact HB.out | apply below_alloc | apply pw_below_drewN | apply below_drew1 | refine below_set ?_ GE246.out | refine below_set ?_ GE255.out) | exact HB.out)⟩⟩
  ·replace c21 := Bool.eq_false_iff.mpr c21
   subst c21
   have H1 : ((spec_l12flag.f k t247 (⟨#[112, 114, 111, 120, 121, 45, 114, 101, 118, 97, 108, 105, 100, 97, 116, 101]⟩ : ByteArray)).bind fun t257 => (spec_ReadDirs.j0 k l0 t247 t250 t251 t252 t253 t257 t254 0 0 0 0)) = some (r1, r2, r3, r4, r5, r6, r7, r8, r9, r10) := by rw [if_neg (show ¬ (false = true) by decide)] at H; exact H
   clear H
   have H := H1
   clear H1
   replace H := Option.bind_eq_some_iff.mp H
   obtain ⟨t257, A250, H⟩ := H
   replace H : (spec_ReadDirs.j0 k l0 t247 t250 t251 t252 t253 t257 t254 0 0 0 0) = some (r1, r2, r3, r4, r5, r6, r7, r8, r9, r10) := H
   have A25 := Aside0.mk A250
   clear A250
   have H' := Aside0.mk H
   clear H
   go_wp2_with (first | ((with_reducible refine gate_callee (f := 105) rfl ?_); refine goesL_ (some 23) rfl rfl Try.func105 (by kernel_rfl) rfl #[.slice Ao11 t247.length co11, .string (⟨#[109, 117, 115, 116, 45, 114, 101, 118, 97, 108, 105, 100, 97, 116, 101]⟩ : ByteArray)] rfl (by (try simp only [List.map_toArray, List.map_cons, List.map_nil]); first | done | rfl | (simp only [List.length_drop, List.length_take]; rfl)) ?_; (with_reducible refine (spec_l12flag.calls k _ _ t247 (⟨#[109, 117, 115, 116, 45, 114, 101, 118, 97, 108, 105, 100, 97, 116, 101]⟩ : ByteArray) false _ ?side1 ?side2 A20.out).mono ?_); (case side1 => refine (Kd.R_reads' (e := 9) (base := w.heap.size) (ok := fun k_ => True) (n := t247.length) (c := co11) ?_).2.2; exact (by (with_reducible repeat (first | apply Kd.R_alloc | apply Kd.R_drewN | apply Kd.R_drew)); exact (Kd.R_mono (Kd.R_far (p := ⟨gb255, 9, none⟩) (Kd.R_far (p := ⟨gb255, 8, none⟩) (Kd.R_far (p := ⟨gb255, 7, none⟩) (Kd.R_far (p := ⟨gb255, 6, none⟩) (Kd.R_far (p := ⟨gb255, 5, none⟩) (Kd.R_far (p := ⟨gb255, 4, none⟩) (Kd.R_far (p := ⟨gb255, 3, none⟩) (Kd.R_far (p := ⟨gb255, 2, none⟩) (Kd.R_far (p := ⟨gb255, 1, none⟩) (Kd.R_far (p := ⟨gb255, 0, none⟩) (Kd.R_types HO249.out BK255.out (by decide)) (fun _ hk => hk.2) (.bool t250)) (fun _ hk => hk.2) (.bool t251)) (fun _ hk => hk.2) (.bool t252)) (fun _ hk => hk.2) (.bool t253)) (fun _ hk => hk.2) (.bool false)) (fun _ hk => hk.2) (.bool t254)) (fun _ hk => hk.2) (.int .i64 0)) (fun _ hk => hk.2) (.int .i64 0)) (fun _ hk => hk.2) (.int .i64 0)) (fun _ hk => hk.2) (.int .i64 0)) (fun _ h_ => h_.1)))); (case side2 => exact (Kd.R_reads' HO249.out).2.1); rintro e w26 ⟨rfl, hb⟩; refine ⟨_, rfl, ?_⟩; have n0_ := Aside0.mk (Kd.R_below (by (with_reducible repeat (first | apply Kd.R_alloc | apply Kd.R_drewN | apply Kd.R_drew)); exact (Kd.R_mono (Kd.R_far (p := ⟨gb255, 9, none⟩) (Kd.R_far (p := ⟨gb255, 8, none⟩) (Kd.R_far (p := ⟨gb255, 7, none⟩) (Kd.R_far (p := ⟨gb255, 6, none⟩) (Kd.R_far (p := ⟨gb255, 5, none⟩) (Kd.R_far (p := ⟨gb255, 4, none⟩) (Kd.R_far (p := ⟨gb255, 3, none⟩) (Kd.R_far (p := ⟨gb255, 2, none⟩) (Kd.R_far (p := ⟨gb255, 1, none⟩) (Kd.R_far (p := ⟨gb255, 0, none⟩) (Kd.R_types HO249.out BK255.out (by decide)) (fun _ hk => hk.2) (.bool t250)) (fun _ hk => hk.2) (.bool t251)) (fun _ hk => hk.2) (.bool t252)) (fun _ hk => hk.2) (.bool t253)) (fun _ hk => hk.2) (.bool false)) (fun _ hk => hk.2) (.bool t254)) (fun _ hk => hk.2) (.int .i64 0)) (fun _ hk => hk.2) (.int .i64 0)) (fun _ hk => hk.2) (.int .i64 0)) (fun _ hk => hk.2) (.int .i64 0)) (fun _ h_ => h_.1))) hb); have n1_ := Aside0.mk (blk_below (g := gb246) (o := .cells #[.bool false, .bool false, .bool false, .bool false, .bool false, .bool false, .int .i64 0, .int .i64 0, .int .i64 0, .int .i64 0] 25 (0, 0)) (by (with_reducible repeat (first | refine blk_drewN ?_ _ | refine blk_drew ?_ | refine blk_alloc ?_ _)); refine blk_far ?_ NB246_255.out _; (with_reducible repeat (first | refine blk_drewN ?_ _ | refine blk_drew ?_ | refine blk_alloc ?_ _)); refine blk_far ?_ NB246_255.out _; (with_reducible repeat (first | refine blk_drewN ?_ _ | refine blk_drew ?_ | refine blk_alloc ?_ _)); refine blk_far ?_ NB246_255.out _; (with_reducible repeat (first | refine blk_drewN ?_ _ | refine blk_drew ?_ | refine blk_alloc ?_ _)); refine blk_far ?_ NB246_255.out _; (with_reducible repeat (first | refine blk_drewN ?_ _ | refine blk_drew ?_ | refine blk_alloc ?_ _)); refine blk_far ?_ NB246_255.out _; (with_reducible repeat (first | refine blk_drewN ?_ _ | refine blk_drew ?_ | refine blk_alloc ?_ _)); refine blk_far ?_ NB246_255.out _; (with_reducible repeat (first | refine blk_drewN ?_ _ | refine blk_drew ?_ | refine blk_alloc ?_ _)); refine blk_far ?_ NB246_255.out _; (with_reducible repeat (first | refine blk_drewN ?_ _ | refine blk_drew ?_ | refine blk_alloc ?_ _)); refine blk_far ?_ NB246_255.out _; (with_reducible repeat (first | refine blk_drewN ?_ _ | refine blk_drew ?_ | refine blk_alloc ?_ _)); refine blk_far ?_ NB246_255.out _; (with_reducible repeat (first | refine blk_drewN ?_ _ | refine blk_drew ?_ | refine blk_alloc ?_ _)); refine blk_far ?_ NB246_255.out _; (with_reducible repeat (first | refine blk_drewN ?_ _ | refine blk_drew ?_ | refine blk_alloc ?_ _)); exact BK246.out) hb); have n2_ := Aside0.mk (blk_below (g := gb255) (o := .cells #[.bool t250, .bool t251, .bool t252, .bool t253, .bool false, .bool t254, .int .i64 0, .int .i64 0, .int .i64 0, .int .i64 0] 25 (0, 0)) (by (with_reducible repeat (first | refine blk_drewN ?_ _ | refine blk_drew ?_ | refine blk_alloc ?_ _)); refine blk_put (cs := #[.bool t250, .bool t251, .bool t252, .bool t253, .bool false, .bool t254, .int .i64 0, .int .i64 0, .int .i64 0, .int .i64 0]) ?_ 9 _ rfl; (with_reducible repeat (first | refine blk_drewN ?_ _ | refine blk_drew ?_ | refine blk_alloc ?_ _)); refine blk_put (cs := #[.bool t250, .bool t251, .bool t252, .bool t253, .bool false, .bool t254, .int .i64 0, .int .i64 0, .int .i64 0, .int .i64 0]) ?_ 8 _ rfl; (with_reducible repeat (first | refine blk_drewN ?_ _ | refine blk_drew ?_ | refine blk_alloc ?_ _)); refine blk_put (cs := #[.bool t250, .bool t251, .bool t252, .bool t253, .bool false, .bool t254, .int .i64 0, .int .i64 0, .int .i64 0, .int .i64 0]) ?_ 7 _ rfl; (with_reducible repeat (first | refine blk_drewN ?_ _ | refine blk_drew ?_ | refine blk_alloc ?_ _)); refine blk_put (cs := #[.bool t250, .bool t251, .bool t252, .bool t253, .bool false, .bool t254, .int .i64 0, .int .i64 0, .int .i64 0, .int .i64 0]) ?_ 6 _ rfl; (with_reducible repeat (first | refine blk_drewN ?_ _ | refine blk_drew ?_ | refine blk_alloc ?_ _)); refine blk_put (cs := #[.bool t250, .bool t251, .bool t252, .bool t253, .bool false, .bool false, .int .i64 0, .int .i64 0, .int .i64 0, .int .i64 0]) ?_ 5 _ rfl; (with_reducible repeat (first | refine blk_drewN ?_ _ | refine blk_drew ?_ | refine blk_alloc ?_ _)); refine blk_put (cs := #[.bool t250, .bool t251, .bool t252, .bool t253, .bool false, .bool false, .int .i64 0, .int .i64 0, .int .i64 0, .int .i64 0]) ?_ 4 _ rfl; (with_reducible repeat (first | refine blk_drewN ?_ _ | refine blk_drew ?_ | refine blk_alloc ?_ _)); refine blk_put (cs := #[.bool t250, .bool t251, .bool t252, .bool false, .bool false, .bool false, .int .i64 0, .int .i64 0, .int .i64 0, .int .i64 0]) ?_ 3 _ rfl; (with_reducible repeat (first | refine blk_drewN ?_ _ | refine blk_drew ?_ | refine blk_alloc ?_ _)); refine blk_put (cs := #[.bool t250, .bool t251, .bool false, .bool false, .bool false, .bool false, .int .i64 0, .int .i64 0, .int .i64 0, .int .i64 0]) ?_ 2 _ rfl; (with_reducible repeat (first | refine blk_drewN ?_ _ | refine blk_drew ?_ | refine blk_alloc ?_ _)); refine blk_put (cs := #[.bool t250, .bool false, .bool false, .bool false, .bool false, .bool false, .int .i64 0, .int .i64 0, .int .i64 0, .int .i64 0]) ?_ 1 _ rfl; (with_reducible repeat (first | refine blk_drewN ?_ _ | refine blk_drew ?_ | refine blk_alloc ?_ _)); refine blk_put (cs := #[.bool false, .bool false, .bool false, .bool false, .bool false, .bool false, .int .i64 0, .int .i64 0, .int .i64 0, .int .i64 0]) ?_ 0 _ rfl; (with_reducible repeat (first | refine blk_drewN ?_ _ | refine blk_drew ?_ | refine blk_alloc ?_ _)); exact BK255.out) hb); have n3_ := Aside0.mk (below_step (by repeat (first | (with_reducible first | exact HB.out | apply below_alloc | apply pw_below_drewN | apply below_drew1 | refine below_set ?_ GE246.out | refine below_set ?_ GE255.out) | exact HB.out)) hb); clear HO249; clear BK246; clear BK255; clear HB; have HO249 := n0_; have BK246 := n1_; have BK255 := n2_; have HB := n3_; clear n0_ n1_ n2_ n3_; (try clear hb); (try clear hb2); (try clear hk); (try clear hi)) | (go_at_call 105; (with_reducible refine (spec_l12flag.calls k _ _ t247 (⟨#[112, 114, 111, 120, 121, 45, 114, 101, 118, 97, 108, 105, 100, 97, 116, 101]⟩ : ByteArray) t257 _ ?side1 ?side2 A25.out).mono ?_); (case side1 => repeat (first | exact (Kd.R_reads' HO249.out).2.2 | (with_reducible refine Kd.C_alloc ?_ _) | (with_reducible refine Kd.C_drewN ?_ _) | (with_reducible refine Kd.C_drew ?_))); (case side2 => exact (Kd.R_reads' HO249.out).2.1); rintro e w27 ⟨rfl, hb⟩; have n0_ := Aside0.mk (Kd.R_below (by (with_reducible repeat (first | apply Kd.R_alloc | apply Kd.R_drewN | apply Kd.R_drew)); exact HO249.out) hb); have n1_ := Aside0.mk (blk_below (g := gb246) (o := .cells #[.bool false, .bool false, .bool false, .bool false, .bool false, .bool false, .int .i64 0, .int .i64 0, .int .i64 0, .int .i64 0] 25 (0, 0)) (by (with_reducible repeat (first | refine blk_drewN ?_ _ | refine blk_drew ?_ | refine blk_alloc ?_ _)); exact BK246.out) hb); have n2_ := Aside0.mk (blk_below (g := gb255) (o := .cells #[.bool t250, .bool t251, .bool t252, .bool t253, .bool false, .bool t254, .int .i64 0, .int .i64 0, .int .i64 0, .int .i64 0] 25 (0, 0)) (by (with_reducible repeat (first | refine blk_drewN ?_ _ | refine blk_drew ?_ | refine blk_alloc ?_ _)); exact BK255.out) hb); have n3_ := Aside0.mk (below_step (by repeat (first | (with_reducible first | exact HB.out | apply below_alloc | apply pw_below_drewN | apply below_drew1 | refine below_set ?_ GE246.out | refine below_set ?_ GE255.out) | exact HB.out)) hb); clear HO249; clear BK246; clear BK255; clear HB; have HO249 := n0_; have BK246 := n1_; have BK255 := n2_; have HB := n3_; clear n0_ n1_ n2_ n3_; (try clear hb); (try clear hb2); (try clear hk); (try clear hi); have hnb28 := NB255_246.out; have hnc28 := NB246_255.out; have hcz29_0 : w27.cell? ⟨gb255, 0, none⟩ = some (.bool t250) := (blk_cell BK255.out 0).trans rfl; have hcz29_1 : w27.cell? ⟨gb255, 1, none⟩ = some (.bool t251) := (blk_cell BK255.out 1).trans rfl; have hcz29_2 : w27.cell? ⟨gb255, 2, none⟩ = some (.bool t252) := (blk_cell BK255.out 2).trans rfl; have hcz29_3 : w27.cell? ⟨gb255, 3, none⟩ = some (.bool t253) := (blk_cell BK255.out 3).trans rfl; have hcz29_4 : w27.cell? ⟨gb255, 4, none⟩ = some (.bool false) := (blk_cell BK255.out 4).trans rfl; have hcz29_5 : w27.cell? ⟨gb255, 5, none⟩ = some (.bool t254) := (blk_cell BK255.out 5).trans rfl; have hcz29_6 : w27.cell? ⟨gb255, 6, none⟩ = some (.int .i64 0) := (blk_cell BK255.out 6).trans rfl; have hcz29_7 : w27.cell? ⟨gb255, 7, none⟩ = some (.int .i64 0) := (blk_cell BK255.out 7).trans rfl; have hcz29_8 : w27.cell? ⟨gb255, 8, none⟩ = some (.int .i64 0) := (blk_cell BK255.out 8).trans rfl; have hcz29_9 : w27.cell? ⟨gb255, 9, none⟩ = some (.int .i64 0) := (blk_cell BK255.out 9).trans rfl; have hfz29_0 := blk_frozen BK255.out 0; have hfz29_1 := blk_frozen BK255.out 1; have hfz29_2 := blk_frozen BK255.out 2; have hfz29_3 := blk_frozen BK255.out 3; have hfz29_4 := blk_frozen BK255.out 4; have hfz29_5 := blk_frozen BK255.out 5; have hfz29_6 := blk_frozen BK255.out 6; have hfz29_7 := blk_frozen BK255.out 7; have hfz29_8 := blk_frozen BK255.out 8; have hfz29_9 := blk_frozen BK255.out 9))
   go_meet
   case rel => exact ⟨_, (t257), H', ⟨by first | omega | exact Nat.le_refl _⟩, ⟨by (with_reducible repeat (first | apply Kd.R_alloc | apply Kd.R_drewN | apply Kd.R_drew)); exact Kd.R_mono (Kd.R_far (p := ⟨gb255, 4, none⟩) (Kd.R_types HO249.out BK255.out (by decide)) (fun _ hk => hk.2) (.bool t257)) (fun _ hk => trivial)⟩, ⟨by (with_reducible repeat (first | refine blk_drewN ?_ _ | refine blk_drew ?_ | refine blk_alloc ?_ _)); refine blk_far ?_ NB246_255.out _; (with_reducible repeat (first | refine blk_drewN ?_ _ | refine blk_drew ?_ | refine blk_alloc ?_ _)); exact BK246.out⟩, ⟨by (with_reducible repeat (first | refine blk_drewN ?_ _ | refine blk_drew ?_ | refine blk_alloc ?_ _)); refine blk_put (cs := #[.bool t250, .bool t251, .bool t252, .bool t253, .bool false, .bool t254, .int .i64 0, .int .i64 0, .int .i64 0, .int .i64 0]) ?_ 4 _ rfl; (with_reducible repeat (first | refine blk_drewN ?_ _ | refine blk_drew ?_ | refine blk_alloc ?_ _)); exact BK255.out⟩, ⟨by repeat (first | (with_reducible first | exact HB.out | apply below_alloc | apply pw_below_drewN | apply below_drew1 | refine below_set ?_ GE246.out | refine below_set ?_ GE255.out) | exact HB.out)⟩⟩
 case rest =>
  clear HC8
  try clear c1
  try clear c2
  try clear p2
  try clear c6
  try clear c10
  try clear c18
  try clear c21
  try clear c23
  try clear c28
  try clear hcz19_0
  try clear hcz19_1
  try clear hcz19_2
  try clear hcz19_3
  try clear hcz19_4
  try clear hcz19_5
  try clear hcz19_6
  try clear hcz19_7
  try clear hcz19_8
  try clear hcz19_9
  try clear hcz24_0
  try clear hcz24_1
  try clear hcz24_2
  try clear hcz24_3
  try clear hcz24_4
  try clear hcz24_5
  try clear hcz24_6
  try clear hcz24_7
  try clear hcz24_8
  try clear hcz24_9
  try clear hcz29_0
  try clear hcz29_1
  try clear hcz29_2
  try clear hcz29_3
  try clear hcz29_4
  try clear hcz29_5
  try clear hcz29_6
  try clear hcz29_7
  try clear hcz29_8
  try clear hcz29_9
  try clear hfz19_0
  try clear hfz19_1
  try clear hfz19_2
  try clear hfz19_3
  try clear hfz19_4
  try clear hfz19_5
  try clear hfz19_6
  try clear hfz19_7
  try clear hfz19_8
  try clear hfz19_9
  try clear hfz24_0
  try clear hfz24_1
  try clear hfz24_2
  try clear hfz24_3
  try clear hfz24_4
  try clear hfz24_5
  try clear hfz24_6
  try clear hfz24_7
  try clear hfz24_8
  try clear hfz24_9
  try clear hfz29_0
  try clear hfz29_1
  try clear hfz29_2
  try clear hfz29_3
  try clear hfz29_4
  try clear hfz29_5
  try clear hfz29_6
  try clear hfz29_7
  try clear hfz29_8
  try clear hfz29_9
  obtain ⟨kq, x256004_7, HA, HJ7, HO_3, BK246, BK255, HB⟩ := hcut
  cases kq with
  | zero => exact absurd HA.out (by simp [spec_ReadDirs.j0])
  | succ kj7 =>
   have H := HA.out
   clear HA
   simp only [spec_ReadDirs.j0] at H
   replace H := Option.bind_eq_some_iff.mp H
   obtain ⟨t258, A300, H⟩ := H
   replace H : ((spec_l12num.f kj7 t247 (⟨#[115, 45, 109, 97, 120, 97, 103, 101]⟩ : ByteArray) 0 0).bind fun t259 => ((spec_l12num.f kj7 t247 (⟨#[109, 97, 120, 45, 115, 116, 97, 108, 101]⟩ : ByteArray) 2147483648 0).bind fun t260 => ((spec_l12num.f kj7 t247 (⟨#[109, 105, 110, 45, 102, 114, 101, 115, 104]⟩ : ByteArray) 2147483648 2147483648).bind fun t261 => ((spec_Get.f kj7 l0 (⟨#[99, 97, 99, 104, 101, 45, 99, 111, 110, 116, 114, 111, 108]⟩ : ByteArray)).bind fun bt262 => (if bt262.2 = true then (some (t250, t251, t252, t253, x256004_7, t254, t258, t259, t260, t261)) else ((spec_Words.f kj7 l0 (⟨#[112, 114, 97, 103, 109, 97]⟩ : ByteArray)).bind fun t264 => (spec_ReadDirs.l0 kj7 t264 0 t250 t251 t252 t253 x256004_7 t254 t258 t259 t260 t261))))))) = some (r1, r2, r3, r4, r5, r6, r7, r8, r9, r10) := H
   have A30 := Aside0.mk A300
   clear A300
   replace H := Option.bind_eq_some_iff.mp H
   obtain ⟨t259, A310, H⟩ := H
   replace H : ((spec_l12num.f kj7 t247 (⟨#[109, 97, 120, 45, 115, 116, 97, 108, 101]⟩ : ByteArray) 2147483648 0).bind fun t260 => ((spec_l12num.f kj7 t247 (⟨#[109, 105, 110, 45, 102, 114, 101, 115, 104]⟩ : ByteArray) 2147483648 2147483648).bind fun t261 => ((spec_Get.f kj7 l0 (⟨#[99, 97, 99, 104, 101, 45, 99, 111, 110, 116, 114, 111, 108]⟩ : ByteArray)).bind fun bt262 => (if bt262.2 = true then (some (t250, t251, t252, t253, x256004_7, t254, t258, t259, t260, t261)) else ((spec_Words.f kj7 l0 (⟨#[112, 114, 97, 103, 109, 97]⟩ : ByteArray)).bind fun t264 => (spec_ReadDirs.l0 kj7 t264 0 t250 t251 t252 t253 x256004_7 t254 t258 t259 t260 t261)))))) = some (r1, r2, r3, r4, r5, r6, r7, r8, r9, r10) := H
   have A31 := Aside0.mk A310
   clear A310
   replace H := Option.bind_eq_some_iff.mp H
   obtain ⟨t260, A320, H⟩ := H
   replace H : ((spec_l12num.f kj7 t247 (⟨#[109, 105, 110, 45, 102, 114, 101, 115, 104]⟩ : ByteArray) 2147483648 2147483648).bind fun t261 => ((spec_Get.f kj7 l0 (⟨#[99, 97, 99, 104, 101, 45, 99, 111, 110, 116, 114, 111, 108]⟩ : ByteArray)).bind fun bt262 => (if bt262.2 = true then (some (t250, t251, t252, t253, x256004_7, t254, t258, t259, t260, t261)) else ((spec_Words.f kj7 l0 (⟨#[112, 114, 97, 103, 109, 97]⟩ : ByteArray)).bind fun t264 => (spec_ReadDirs.l0 kj7 t264 0 t250 t251 t252 t253 x256004_7 t254 t258 t259 t260 t261))))) = some (r1, r2, r3, r4, r5, r6, r7, r8, r9, r10) := H
   have A32 := Aside0.mk A320
   clear A320
   replace H := Option.bind_eq_some_iff.mp H
   obtain ⟨t261, A330, H⟩ := H
   replace H : ((spec_Get.f kj7 l0 (⟨#[99, 97, 99, 104, 101, 45, 99, 111, 110, 116, 114, 111, 108]⟩ : ByteArray)).bind fun bt262 => (if bt262.2 = true then (some (t250, t251, t252, t253, x256004_7, t254, t258, t259, t260, t261)) else ((spec_Words.f kj7 l0 (⟨#[112, 114, 97, 103, 109, 97]⟩ : ByteArray)).bind fun t264 => (spec_ReadDirs.l0 kj7 t264 0 t250 t251 t252 t253 x256004_7 t254 t258 t259 t260 t261)))) = some (r1, r2, r3, r4, r5, r6, r7, r8, r9, r10) := H
   have A33 := Aside0.mk A330
   clear A330
   replace H := Option.bind_eq_some_iff.mp H
   obtain ⟨⟨t262, t263⟩, A340, H⟩ := H
   replace H : (if t263 = true then (some (t250, t251, t252, t253, x256004_7, t254, t258, t259, t260, t261)) else ((spec_Words.f kj7 l0 (⟨#[112, 114, 97, 103, 109, 97]⟩ : ByteArray)).bind fun t264 => (spec_ReadDirs.l0 kj7 t264 0 t250 t251 t252 t253 x256004_7 t254 t258 t259 t260 t261))) = some (r1, r2, r3, r4, r5, r6, r7, r8, r9, r10) := H
   have A34 := Aside0.mk A340
   clear A340
   by_cases c35 : t263 = true
   ·subst c35
    have H1 : (some (t250, t251, t252, t253, x256004_7, t254, t258, t259, t260, t261)) = some (r1, r2, r3, r4, r5, r6, r7, r8, r9, r10) := by rw [if_pos rfl] at H; exact H
    clear H
    have H := H1
    clear H1
    simp only [Option.some.injEq, Prod.mk.injEq] at H
    obtain ⟨rfl, rfl, rfl, rfl, rfl, rfl, rfl, rfl, rfl, rfl⟩ := H
    go_wp2_with (first | ((with_reducible refine gate_callee (f := 106) rfl ?_); refine goesL_ (some 30) rfl rfl Try.func106 (by kernel_rfl) rfl #[.slice Ao11 t247.length co11, .string (⟨#[109, 97, 120, 45, 97, 103, 101]⟩ : ByteArray), .int .i64 0, .int .i64 0] rfl (by (try simp only [List.map_toArray, List.map_cons, List.map_nil]); first | done | rfl | (simp only [List.length_drop, List.length_take]; rfl)) ?_; (with_reducible refine (spec_l12num.calls kj7 _ _ t247 (⟨#[109, 97, 120, 45, 97, 103, 101]⟩ : ByteArray) 0 0 t258 _ ?side1 ?side2 A30.out).mono ?_); (case side1 => repeat (first | exact (Kd.R_reads' HO_3.out).2.2 | (with_reducible refine Kd.C_alloc ?_ _) | (with_reducible refine Kd.C_drewN ?_ _) | (with_reducible refine Kd.C_drew ?_))); (case side2 => exact (Kd.R_reads' HO_3.out).2.1); rintro e w36 ⟨rfl, hb⟩; refine ⟨_, rfl, ?_⟩; have n0_ := Aside0.mk (Kd.R_below (by (with_reducible repeat (first | apply Kd.R_alloc | apply Kd.R_drewN | apply Kd.R_drew)); exact HO_3.out) hb); have n1_ := Aside0.mk (blk_below (g := gb246) (o := .cells #[.bool false, .bool false, .bool false, .bool false, .bool false, .bool false, .int .i64 0, .int .i64 0, .int .i64 0, .int .i64 0] 25 (0, 0)) (by (with_reducible repeat (first | refine blk_drewN ?_ _ | refine blk_drew ?_ | refine blk_alloc ?_ _)); exact BK246.out) hb); have n2_ := Aside0.mk (blk_below (g := gb255) (o := .cells #[.bool t250, .bool t251, .bool t252, .bool t253, .bool x256004_7, .bool t254, .int .i64 0, .int .i64 0, .int .i64 0, .int .i64 0] 25 (0, 0)) (by (with_reducible repeat (first | refine blk_drewN ?_ _ | refine blk_drew ?_ | refine blk_alloc ?_ _)); exact BK255.out) hb); have n3_ := Aside0.mk (below_step (by repeat (first | (with_reducible first | exact HB.out | apply below_alloc | apply pw_below_drewN | apply below_drew1 | refine below_set ?_ GE246.out | refine below_set ?_ GE255.out) | exact HB.out)) hb); clear HO_3; clear BK246; clear BK255; clear HB; have HO_3 := n0_; have BK246 := n1_; have BK255 := n2_; have HB := n3_; clear n0_ n1_ n2_ n3_; (try clear hb); (try clear hb2); (try clear hk); (try clear hi); have hnb37 := NB255_246.out; have hnc37 := NB246_255.out; have hcz38_0 : w36.cell? ⟨gb255, 0, none⟩ = some (.bool t250) := (blk_cell BK255.out 0).trans rfl; have hcz38_1 : w36.cell? ⟨gb255, 1, none⟩ = some (.bool t251) := (blk_cell BK255.out 1).trans rfl; have hcz38_2 : w36.cell? ⟨gb255, 2, none⟩ = some (.bool t252) := (blk_cell BK255.out 2).trans rfl; have hcz38_3 : w36.cell? ⟨gb255, 3, none⟩ = some (.bool t253) := (blk_cell BK255.out 3).trans rfl; have hcz38_4 : w36.cell? ⟨gb255, 4, none⟩ = some (.bool x256004_7) := (blk_cell BK255.out 4).trans rfl; have hcz38_5 : w36.cell? ⟨gb255, 5, none⟩ = some (.bool t254) := (blk_cell BK255.out 5).trans rfl; have hcz38_6 : w36.cell? ⟨gb255, 6, none⟩ = some (.int .i64 0) := (blk_cell BK255.out 6).trans rfl; have hcz38_7 : w36.cell? ⟨gb255, 7, none⟩ = some (.int .i64 0) := (blk_cell BK255.out 7).trans rfl; have hcz38_8 : w36.cell? ⟨gb255, 8, none⟩ = some (.int .i64 0) := (blk_cell BK255.out 8).trans rfl; have hcz38_9 : w36.cell? ⟨gb255, 9, none⟩ = some (.int .i64 0) := (blk_cell BK255.out 9).trans rfl; have hfz38_0 := blk_frozen BK255.out 0; have hfz38_1 := blk_frozen BK255.out 1; have hfz38_2 := blk_frozen BK255.out 2; have hfz38_3 := blk_frozen BK255.out 3; have hfz38_4 := blk_frozen BK255.out 4; have hfz38_5 := blk_frozen BK255.out 5; have hfz38_6 := blk_frozen BK255.out 6; have hfz38_7 := blk_frozen BK255.out 7; have hfz38_8 := blk_frozen BK255.out 8; have hfz38_9 := blk_frozen BK255.out 9) | ((with_reducible refine gate_callee (f := 106) rfl ?_); refine goesL_ (some 33) rfl rfl Try.func106 (by kernel_rfl) rfl #[.slice Ao11 t247.length co11, .string (⟨#[115, 45, 109, 97, 120, 97, 103, 101]⟩ : ByteArray), .int .i64 0, .int .i64 0] rfl (by (try simp only [List.map_toArray, List.map_cons, List.map_nil]); first | done | rfl | (simp only [List.length_drop, List.length_take]; rfl)) ?_; (with_reducible refine (spec_l12num.calls kj7 _ _ t247 (⟨#[115, 45, 109, 97, 120, 97, 103, 101]⟩ : ByteArray) 0 0 t259 _ ?side1 ?side2 A31.out).mono ?_); (case side1 => refine (Kd.R_reads' (e := 9) (base := w.heap.size) (ok := fun k_ => True) (n := t247.length) (c := co11) ?_).2.2; exact (by (with_reducible repeat (first | apply Kd.R_alloc | apply Kd.R_drewN | apply Kd.R_drew)); exact (Kd.R_mono (Kd.R_far (p := ⟨gb255, 6, none⟩) (Kd.R_types HO_3.out BK255.out (by decide)) (fun _ hk => hk.2) (.int .i64 t258)) (fun _ h_ => h_.1)))); (case side2 => exact (Kd.R_reads' HO_3.out).2.1); rintro e w39 ⟨rfl, hb⟩; refine ⟨_, rfl, ?_⟩; have n0_ := Aside0.mk (Kd.R_below (by (with_reducible repeat (first | apply Kd.R_alloc | apply Kd.R_drewN | apply Kd.R_drew)); exact (Kd.R_mono (Kd.R_far (p := ⟨gb255, 6, none⟩) (Kd.R_types HO_3.out BK255.out (by decide)) (fun _ hk => hk.2) (.int .i64 t258)) (fun _ h_ => h_.1))) hb); have n1_ := Aside0.mk (blk_below (g := gb246) (o := .cells #[.bool false, .bool false, .bool false, .bool false, .bool false, .bool false, .int .i64 0, .int .i64 0, .int .i64 0, .int .i64 0] 25 (0, 0)) (by (with_reducible repeat (first | refine blk_drewN ?_ _ | refine blk_drew ?_ | refine blk_alloc ?_ _)); refine blk_far ?_ NB246_255.out _; (with_reducible repeat (first | refine blk_drewN ?_ _ | refine blk_drew ?_ | refine blk_alloc ?_ _)); exact BK246.out) hb); have n2_ := Aside0.mk (blk_below (g := gb255) (o := .cells #[.bool t250, .bool t251, .bool t252, .bool t253, .bool x256004_7, .bool t254, .int .i64 t258, .int .i64 0, .int .i64 0, .int .i64 0] 25 (0, 0)) (by (with_reducible repeat (first | refine blk_drewN ?_ _ | refine blk_drew ?_ | refine blk_alloc ?_ _)); refine blk_put (cs := #[.bool t250, .bool t251, .bool t252, .bool t253, .bool x256004_7, .bool t254, .int .i64 0, .int .i64 0, .int .i64 0, .int .i64 0]) ?_ 6 _ rfl; (with_reducible repeat (first | refine blk_drewN ?_ _ | refine blk_drew ?_ | refine blk_alloc ?_ _)); exact BK255.out) hb); have n3_ := Aside0.mk (below_step (by repeat (first | (with_reducible first | exact HB.out | apply below_alloc | apply pw_below_drewN | apply below_drew1 | refine below_set ?_ GE246.out | refine below_set ?_ GE255.out) | exact HB.out)) hb); clear HO_3; clear BK246; clear BK255; clear HB; have HO_3 := n0_; have BK246 := n1_; have BK255 := n2_; have HB := n3_; clear n0_ n1_ n2_ n3_; (try clear hb); (try clear hb2); (try clear hk); (try clear hi); have hcz40_0 : w39.cell? ⟨gb255, 0, none⟩ = some (.bool t250) := (blk_cell BK255.out 0).trans rfl; have hcz40_1 : w39.cell? ⟨gb255, 1, none⟩ = some (.bool t251) := (blk_cell BK255.out 1).trans rfl; have hcz40_2 : w39.cell? ⟨gb255, 2, none⟩ = some (.bool t252) := (blk_cell BK255.out 2).trans rfl; have hcz40_3 : w39.cell? ⟨gb255, 3, none⟩ = some (.bool t253) := (blk_cell BK255.out 3).trans rfl; have hcz40_4 : w39.cell? ⟨gb255, 4, none⟩ = some (.bool x256004_7) := (blk_cell BK255.out 4).trans rfl; have hcz40_5 : w39.cell? ⟨gb255, 5, none⟩ = some (.bool t254) := (blk_cell BK255.out 5).trans rfl; have hcz40_6 : w39.cell? ⟨gb255, 6, none⟩ = some (.int .i64 t258) := (blk_cell BK255.out 6).trans rfl; have hcz40_7 : w39.cell? ⟨gb255, 7, none⟩ = some (.int .i64 0) := (blk_cell BK255.out 7).trans rfl; have hcz40_8 : w39.cell? ⟨gb255, 8, none⟩ = some (.int .i64 0) := (blk_cell BK255.out 8).trans rfl; have hcz40_9 : w39.cell? ⟨gb255, 9, none⟩ = some (.int .i64 0) := (blk_cell BK255.out 9).trans rfl; have hfz40_0 := blk_frozen BK255.out 0; have hfz40_1 := blk_frozen BK255.out 1; have hfz40_2 := blk_frozen BK255.out 2; have hfz40_3 := blk_frozen BK255.out 3; have hfz40_4 := blk_frozen BK255.out 4; have hfz40_5 := blk_frozen BK255.out 5; have hfz40_6 := blk_frozen BK255.out 6; have hfz40_7 := blk_frozen BK255.out 7; have hfz40_8 := blk_frozen BK255.out 8; have hfz40_9 := blk_frozen BK255.out 9) | ((with_reducible refine gate_callee (f := 106) rfl ?_); refine goesL_ (some 36) rfl rfl Try.func106 (by kernel_rfl) rfl #[.slice Ao11 t247.length co11, .string (⟨#[109, 97, 120, 45, 115, 116, 97, 108, 101]⟩ : ByteArray), .int .i64 2147483648, .int .i64 0] rfl (by (try simp only [List.map_toArray, List.map_cons, List.map_nil]); first | done | rfl | (simp only [List.length_drop, List.length_take]; rfl)) ?_; (with_reducible refine (spec_l12num.calls kj7 _ _ t247 (⟨#[109, 97, 120, 45, 115, 116, 97, 108, 101]⟩ : ByteArray) 2147483648 0 t260 _ ?side1 ?side2 A32.out).mono ?_); (case side1 => refine (Kd.R_reads' (e := 9) (base := w.heap.size) (ok := fun k_ => True) (n := t247.length) (c := co11) ?_).2.2; exact (by (with_reducible repeat (first | apply Kd.R_alloc | apply Kd.R_drewN | apply Kd.R_drew)); exact (Kd.R_mono (Kd.R_far (p := ⟨gb255, 7, none⟩) (Kd.R_types HO_3.out BK255.out (by decide)) (fun _ hk => hk.2) (.int .i64 t259)) (fun _ h_ => h_.1)))); (case side2 => exact (Kd.R_reads' HO_3.out).2.1); rintro e w41 ⟨rfl, hb⟩; refine ⟨_, rfl, ?_⟩; have n0_ := Aside0.mk (Kd.R_below (by (with_reducible repeat (first | apply Kd.R_alloc | apply Kd.R_drewN | apply Kd.R_drew)); exact (Kd.R_mono (Kd.R_far (p := ⟨gb255, 7, none⟩) (Kd.R_types HO_3.out BK255.out (by decide)) (fun _ hk => hk.2) (.int .i64 t259)) (fun _ h_ => h_.1))) hb); have n1_ := Aside0.mk (blk_below (g := gb246) (o := .cells #[.bool false, .bool false, .bool false, .bool false, .bool false, .bool false, .int .i64 0, .int .i64 0, .int .i64 0, .int .i64 0] 25 (0, 0)) (by (with_reducible repeat (first | refine blk_drewN ?_ _ | refine blk_drew ?_ | refine blk_alloc ?_ _)); refine blk_far ?_ NB246_255.out _; (with_reducible repeat (first | refine blk_drewN ?_ _ | refine blk_drew ?_ | refine blk_alloc ?_ _)); exact BK246.out) hb); have n2_ := Aside0.mk (blk_below (g := gb255) (o := .cells #[.bool t250, .bool t251, .bool t252, .bool t253, .bool x256004_7, .bool t254, .int .i64 t258, .int .i64 t259, .int .i64 0, .int .i64 0] 25 (0, 0)) (by (with_reducible repeat (first | refine blk_drewN ?_ _ | refine blk_drew ?_ | refine blk_alloc ?_ _)); refine blk_put (cs := #[.bool t250, .bool t251, .bool t252, .bool t253, .bool x256004_7, .bool t254, .int .i64 t258, .int .i64 0, .int .i64 0, .int .i64 0]) ?_ 7 _ rfl; (with_reducible repeat (first | refine blk_drewN ?_ _ | refine blk_drew ?_ | refine blk_alloc ?_ _)); exact BK255.out) hb); have n3_ := Aside0.mk (below_step (by repeat (first | (with_reducible first | exact HB.out | apply below_alloc | apply pw_below_drewN | apply below_drew1 | refine below_set ?_ GE246.out | refine below_set ?_ GE255.out) | exact HB.out)) hb); clear HO_3; clear BK246; clear BK255; clear HB; have HO_3 := n0_; have BK246 := n1_; have BK255 := n2_; have HB := n3_; clear n0_ n1_ n2_ n3_; (try clear hb); (try clear hb2); (try clear hk); (try clear hi); have hcz42_0 : w41.cell? ⟨gb255, 0, none⟩ = some (.bool t250) := (blk_cell BK255.out 0).trans rfl; have hcz42_1 : w41.cell? ⟨gb255, 1, none⟩ = some (.bool t251) := (blk_cell BK255.out 1).trans rfl; have hcz42_2 : w41.cell? ⟨gb255, 2, none⟩ = some (.bool t252) := (blk_cell BK255.out 2).trans rfl; have hcz42_3 : w41.cell? ⟨gb255, 3, none⟩ = some (.bool t253) := (blk_cell BK255.out 3).trans rfl; have hcz42_4 : w41.cell? ⟨gb255, 4, none⟩ = some (.bool x256004_7) := (blk_cell BK255.out 4).trans rfl; have hcz42_5 : w41.cell? ⟨gb255, 5, none⟩ = some (.bool t254) := (blk_cell BK255.out 5).trans rfl; have hcz42_6 : w41.cell? ⟨gb255, 6, none⟩ = some (.int .i64 t258) := (blk_cell BK255.out 6).trans rfl; have hcz42_7 : w41.cell? ⟨gb255, 7, none⟩ = some (.int .i64 t259) := (blk_cell BK255.out 7).trans rfl; have hcz42_8 : w41.cell? ⟨gb255, 8, none⟩ = some (.int .i64 0) := (blk_cell BK255.out 8).trans rfl; have hcz42_9 : w41.cell? ⟨gb255, 9, none⟩ = some (.int .i64 0) := (blk_cell BK255.out 9).trans rfl; have hfz42_0 := blk_frozen BK255.out 0; have hfz42_1 := blk_frozen BK255.out 1; have hfz42_2 := blk_frozen BK255.out 2; have hfz42_3 := blk_frozen BK255.out 3; have hfz42_4 := blk_frozen BK255.out 4; have hfz42_5 := blk_frozen BK255.out 5; have hfz42_6 := blk_frozen BK255.out 6; have hfz42_7 := blk_frozen BK255.out 7; have hfz42_8 := blk_frozen BK255.out 8; have hfz42_9 := blk_frozen BK255.out 9) | ((with_reducible refine gate_callee (f := 106) rfl ?_); refine goesL_ (some 39) rfl rfl Try.func106 (by kernel_rfl) rfl #[.slice Ao11 t247.length co11, .string (⟨#[109, 105, 110, 45, 102, 114, 101, 115, 104]⟩ : ByteArray), .int .i64 2147483648, .int .i64 2147483648] rfl (by (try simp only [List.map_toArray, List.map_cons, List.map_nil]); first | done | rfl | (simp only [List.length_drop, List.length_take]; rfl)) ?_; (with_reducible refine (spec_l12num.calls kj7 _ _ t247 (⟨#[109, 105, 110, 45, 102, 114, 101, 115, 104]⟩ : ByteArray) 2147483648 2147483648 t261 _ ?side1 ?side2 A33.out).mono ?_); (case side1 => refine (Kd.R_reads' (e := 9) (base := w.heap.size) (ok := fun k_ => True) (n := t247.length) (c := co11) ?_).2.2; exact (by (with_reducible repeat (first | apply Kd.R_alloc | apply Kd.R_drewN | apply Kd.R_drew)); exact (Kd.R_mono (Kd.R_far (p := ⟨gb255, 8, none⟩) (Kd.R_types HO_3.out BK255.out (by decide)) (fun _ hk => hk.2) (.int .i64 t260)) (fun _ h_ => h_.1)))); (case side2 => exact (Kd.R_reads' HO_3.out).2.1); rintro e w43 ⟨rfl, hb⟩; refine ⟨_, rfl, ?_⟩; have n0_ := Aside0.mk (Kd.R_below (by (with_reducible repeat (first | apply Kd.R_alloc | apply Kd.R_drewN | apply Kd.R_drew)); exact (Kd.R_mono (Kd.R_far (p := ⟨gb255, 8, none⟩) (Kd.R_types HO_3.out BK255.out (by decide)) (fun _ hk => hk.2) (.int .i64 t260)) (fun _ h_ => h_.1))) hb); have n1_ := Aside0.mk (blk_below (g := gb246) (o := .cells #[.bool false, .bool false, .bool false, .bool false, .bool false, .bool false, .int .i64 0, .int .i64 0, .int .i64 0, .int .i64 0] 25 (0, 0)) (by (with_reducible repeat (first | refine blk_drewN ?_ _ | refine blk_drew ?_ | refine blk_alloc ?_ _)); refine blk_far ?_ NB246_255.out _; (with_reducible repeat (first | refine blk_drewN ?_ _ | refine blk_drew ?_ | refine blk_alloc ?_ _)); exact BK246.out) hb); have n2_ := Aside0.mk (blk_below (g := gb255) (o := .cells #[.bool t250, .bool t251, .bool t252, .bool t253, .bool x256004_7, .bool t254, .int .i64 t258, .int .i64 t259, .int .i64 t260, .int .i64 0] 25 (0, 0)) (by (with_reducible repeat (first | refine blk_drewN ?_ _ | refine blk_drew ?_ | refine blk_alloc ?_ _)); refine blk_put (cs := #[.bool t250, .bool t251, .bool t252, .bool t253, .bool x256004_7, .bool t254, .int .i64 t258, .int .i64 t259, .int .i64 0, .int .i64 0]) ?_ 8 _ rfl; (with_reducible repeat (first | refine blk_drewN ?_ _ | refine blk_drew ?_ | refine blk_alloc ?_ _)); exact BK255.out) hb); have n3_ := Aside0.mk (below_step (by repeat (first | (with_reducible first | exact HB.out | apply below_alloc | apply pw_below_drewN | apply below_drew1 | refine below_set ?_ GE246.out | refine below_set ?_ GE255.out) | exact HB.out)) hb); clear HO_3; clear BK246; clear BK255; clear HB; have HO_3 := n0_; have BK246 := n1_; have BK255 := n2_; have HB := n3_; clear n0_ n1_ n2_ n3_; (try clear hb); (try clear hb2); (try clear hk); (try clear hi); have hcz44_0 : w43.cell? ⟨gb255, 0, none⟩ = some (.bool t250) := (blk_cell BK255.out 0).trans rfl; have hcz44_1 : w43.cell? ⟨gb255, 1, none⟩ = some (.bool t251) := (blk_cell BK255.out 1).trans rfl; have hcz44_2 : w43.cell? ⟨gb255, 2, none⟩ = some (.bool t252) := (blk_cell BK255.out 2).trans rfl; have hcz44_3 : w43.cell? ⟨gb255, 3, none⟩ = some (.bool t253) := (blk_cell BK255.out 3).trans rfl; have hcz44_4 : w43.cell? ⟨gb255, 4, none⟩ = some (.bool x256004_7) := (blk_cell BK255.out 4).trans rfl; have hcz44_5 : w43.cell? ⟨gb255, 5, none⟩ = some (.bool t254) := (blk_cell BK255.out 5).trans rfl; have hcz44_6 : w43.cell? ⟨gb255, 6, none⟩ = some (.int .i64 t258) := (blk_cell BK255.out 6).trans rfl; have hcz44_7 : w43.cell? ⟨gb255, 7, none⟩ = some (.int .i64 t259) := (blk_cell BK255.out 7).trans rfl; have hcz44_8 : w43.cell? ⟨gb255, 8, none⟩ = some (.int .i64 t260) := (blk_cell BK255.out 8).trans rfl; have hcz44_9 : w43.cell? ⟨gb255, 9, none⟩ = some (.int .i64 0) := (blk_cell BK255.out 9).trans rfl; have hfz44_0 := blk_frozen BK255.out 0; have hfz44_1 := blk_frozen BK255.out 1; have hfz44_2 := blk_frozen BK255.out 2; have hfz44_3 := blk_frozen BK255.out 3; have hfz44_4 := blk_frozen BK255.out 4; have hfz44_5 := blk_frozen BK255.out 5; have hfz44_6 := blk_frozen BK255.out 6; have hfz44_7 := blk_frozen BK255.out 7; have hfz44_8 := blk_frozen BK255.out 8; have hfz44_9 := blk_frozen BK255.out 9) | ((with_reducible refine gate_callee (f := 107) rfl ?_); refine goesL_ (some 43) rfl rfl Try.func107 (by kernel_rfl) rfl #[.slice A0 l0.length c0, .string (⟨#[99, 97, 99, 104, 101, 45, 99, 111, 110, 116, 114, 111, 108]⟩ : ByteArray)] rfl (by (try simp only [List.map_toArray, List.map_cons, List.map_nil]); first | done | rfl | (simp only [List.length_drop, List.length_take]; rfl)) ?_; (with_reducible refine (spec_Get.calls kj7 _ _ l0 (⟨#[99, 97, 99, 104, 101, 45, 99, 111, 110, 116, 114, 111, 108]⟩ : ByteArray) t262 true _ ?side1 ?side2 A34.out).mono ?_); (case side1 => exact Kd.C_below HR0.out (by repeat (first | (with_reducible first | exact HB.out | apply below_alloc | apply pw_below_drewN | apply below_drew1 | refine below_set ?_ GE246.out | refine below_set ?_ GE255.out) | exact HB.out))); (case side2 => exact HC0.out); rintro e w45 ⟨rfl, hb⟩; refine ⟨_, rfl, ?_⟩; have n0_ := Aside0.mk (Kd.R_below (by (with_reducible repeat (first | apply Kd.R_alloc | apply Kd.R_drewN | apply Kd.R_drew)); exact (Kd.R_mono (Kd.R_far (p := ⟨gb255, 9, none⟩) (Kd.R_types HO_3.out BK255.out (by decide)) (fun _ hk => hk.2) (.int .i64 t261)) (fun _ h_ => h_.1))) hb); have n1_ := Aside0.mk (blk_below (g := gb246) (o := .cells #[.bool false, .bool false, .bool false, .bool false, .bool false, .bool false, .int .i64 0, .int .i64 0, .int .i64 0, .int .i64 0] 25 (0, 0)) (by (with_reducible repeat (first | refine blk_drewN ?_ _ | refine blk_drew ?_ | refine blk_alloc ?_ _)); refine blk_far ?_ NB246_255.out _; (with_reducible repeat (first | refine blk_drewN ?_ _ | refine blk_drew ?_ | refine blk_alloc ?_ _)); exact BK246.out) hb); have n2_ := Aside0.mk (blk_below (g := gb255) (o := .cells #[.bool t250, .bool t251, .bool t252, .bool t253, .bool x256004_7, .bool t254, .int .i64 t258, .int .i64 t259, .int .i64 t260, .int .i64 t261] 25 (0, 0)) (by (with_reducible repeat (first | refine blk_drewN ?_ _ | refine blk_drew ?_ | refine blk_alloc ?_ _)); refine blk_put (cs := #[.bool t250, .bool t251, .bool t252, .bool t253, .bool x256004_7, .bool t254, .int .i64 t258, .int .i64 t259, .int .i64 t260, .int .i64 0]) ?_ 9 _ rfl; (with_reducible repeat (first | refine blk_drewN ?_ _ | refine blk_drew ?_ | refine blk_alloc ?_ _)); exact BK255.out) hb); have n3_ := Aside0.mk (below_step (by repeat (first | (with_reducible first | exact HB.out | apply below_alloc | apply pw_below_drewN | apply below_drew1 | refine below_set ?_ GE246.out | refine below_set ?_ GE255.out) | exact HB.out)) hb); clear HO_3; clear BK246; clear BK255; clear HB; have HO_3 := n0_; have BK246 := n1_; have BK255 := n2_; have HB := n3_; clear n0_ n1_ n2_ n3_; (try clear hb); (try clear hb2); (try clear hk); (try clear hi); have hcz46_0 : w45.cell? ⟨gb255, 0, none⟩ = some (.bool t250) := (blk_cell BK255.out 0).trans rfl; have hcz46_1 : w45.cell? ⟨gb255, 1, none⟩ = some (.bool t251) := (blk_cell BK255.out 1).trans rfl; have hcz46_2 : w45.cell? ⟨gb255, 2, none⟩ = some (.bool t252) := (blk_cell BK255.out 2).trans rfl; have hcz46_3 : w45.cell? ⟨gb255, 3, none⟩ = some (.bool t253) := (blk_cell BK255.out 3).trans rfl; have hcz46_4 : w45.cell? ⟨gb255, 4, none⟩ = some (.bool x256004_7) := (blk_cell BK255.out 4).trans rfl; have hcz46_5 : w45.cell? ⟨gb255, 5, none⟩ = some (.bool t254) := (blk_cell BK255.out 5).trans rfl; have hcz46_6 : w45.cell? ⟨gb255, 6, none⟩ = some (.int .i64 t258) := (blk_cell BK255.out 6).trans rfl; have hcz46_7 : w45.cell? ⟨gb255, 7, none⟩ = some (.int .i64 t259) := (blk_cell BK255.out 7).trans rfl; have hcz46_8 : w45.cell? ⟨gb255, 8, none⟩ = some (.int .i64 t260) := (blk_cell BK255.out 8).trans rfl; have hcz46_9 : w45.cell? ⟨gb255, 9, none⟩ = some (.int .i64 t261) := (blk_cell BK255.out 9).trans rfl; have hfz46_0 := blk_frozen BK255.out 0; have hfz46_1 := blk_frozen BK255.out 1; have hfz46_2 := blk_frozen BK255.out 2; have hfz46_3 := blk_frozen BK255.out 3; have hfz46_4 := blk_frozen BK255.out 4; have hfz46_5 := blk_frozen BK255.out 5; have hfz46_6 := blk_frozen BK255.out 6; have hfz46_7 := blk_frozen BK255.out 7; have hfz46_8 := blk_frozen BK255.out 8; have hfz46_9 := blk_frozen BK255.out 9; have hcz47_0 : w45.cell? ⟨gb246, 0, none⟩ = some (.bool false) := (blk_cell BK246.out 0).trans rfl; have hcz47_1 : w45.cell? ⟨gb246, 1, none⟩ = some (.bool false) := (blk_cell BK246.out 1).trans rfl; have hcz47_2 : w45.cell? ⟨gb246, 2, none⟩ = some (.bool false) := (blk_cell BK246.out 2).trans rfl; have hcz47_3 : w45.cell? ⟨gb246, 3, none⟩ = some (.bool false) := (blk_cell BK246.out 3).trans rfl; have hcz47_4 : w45.cell? ⟨gb246, 4, none⟩ = some (.bool false) := (blk_cell BK246.out 4).trans rfl; have hcz47_5 : w45.cell? ⟨gb246, 5, none⟩ = some (.bool false) := (blk_cell BK246.out 5).trans rfl; have hcz47_6 : w45.cell? ⟨gb246, 6, none⟩ = some (.int .i64 0) := (blk_cell BK246.out 6).trans rfl; have hcz47_7 : w45.cell? ⟨gb246, 7, none⟩ = some (.int .i64 0) := (blk_cell BK246.out 7).trans rfl; have hcz47_8 : w45.cell? ⟨gb246, 8, none⟩ = some (.int .i64 0) := (blk_cell BK246.out 8).trans rfl; have hcz47_9 : w45.cell? ⟨gb246, 9, none⟩ = some (.int .i64 0) := (blk_cell BK246.out 9).trans rfl; have hfz47_0 := blk_frozen BK246.out 0; have hfz47_1 := blk_frozen BK246.out 1; have hfz47_2 := blk_frozen BK246.out 2; have hfz47_3 := blk_frozen BK246.out 3; have hfz47_4 := blk_frozen BK246.out 4; have hfz47_5 := blk_frozen BK246.out 5; have hfz47_6 := blk_frozen BK246.out 6; have hfz47_7 := blk_frozen BK246.out 7; have hfz47_8 := blk_frozen BK246.out 8; have hfz47_9 := blk_frozen BK246.out 9))
    refine bodyPost_ret (results_cell_row rfl _ _ gb246 25 #[.bool t250, .bool t251, .bool t252, .bool t253, .bool x256004_7, .bool t254, .int .i64 t258, .int .i64 t259, .int .i64 t260, .int .i64 t261] (0, 0) _ rfl (by (with_reducible repeat (first | refine blk_drewN ?_ _ | refine blk_drew ?_ | refine blk_alloc ?_ _)); refine blk_put (cs := #[.bool t250, .bool t251, .bool t252, .bool t253, .bool x256004_7, .bool t254, .int .i64 t258, .int .i64 t259, .int .i64 t260, .int .i64 0]) ?_ 9 _ rfl; (with_reducible repeat (first | refine blk_drewN ?_ _ | refine blk_drew ?_ | refine blk_alloc ?_ _)); refine blk_put (cs := #[.bool t250, .bool t251, .bool t252, .bool t253, .bool x256004_7, .bool t254, .int .i64 t258, .int .i64 t259, .int .i64 0, .int .i64 0]) ?_ 8 _ rfl; (with_reducible repeat (first | refine blk_drewN ?_ _ | refine blk_drew ?_ | refine blk_alloc ?_ _)); refine blk_put (cs := #[.bool t250, .bool t251, .bool t252, .bool t253, .bool x256004_7, .bool t254, .int .i64 t258, .int .i64 0, .int .i64 0, .int .i64 0]) ?_ 7 _ rfl; (with_reducible repeat (first | refine blk_drewN ?_ _ | refine blk_drew ?_ | refine blk_alloc ?_ _)); refine blk_put (cs := #[.bool t250, .bool t251, .bool t252, .bool t253, .bool x256004_7, .bool t254, .int .i64 0, .int .i64 0, .int .i64 0, .int .i64 0]) ?_ 6 _ rfl; (with_reducible repeat (first | refine blk_drewN ?_ _ | refine blk_drew ?_ | refine blk_alloc ?_ _)); refine blk_put (cs := #[.bool t250, .bool t251, .bool t252, .bool t253, .bool x256004_7, .bool false, .int .i64 0, .int .i64 0, .int .i64 0, .int .i64 0]) ?_ 5 _ rfl; (with_reducible repeat (first | refine blk_drewN ?_ _ | refine blk_drew ?_ | refine blk_alloc ?_ _)); refine blk_put (cs := #[.bool t250, .bool t251, .bool t252, .bool t253, .bool false, .bool false, .int .i64 0, .int .i64 0, .int .i64 0, .int .i64 0]) ?_ 4 _ rfl; (with_reducible repeat (first | refine blk_drewN ?_ _ | refine blk_drew ?_ | refine blk_alloc ?_ _)); refine blk_put (cs := #[.bool t250, .bool t251, .bool t252, .bool false, .bool false, .bool false, .int .i64 0, .int .i64 0, .int .i64 0, .int .i64 0]) ?_ 3 _ rfl; (with_reducible repeat (first | refine blk_drewN ?_ _ | refine blk_drew ?_ | refine blk_alloc ?_ _)); refine blk_put (cs := #[.bool t250, .bool t251, .bool false, .bool false, .bool false, .bool false, .int .i64 0, .int .i64 0, .int .i64 0, .int .i64 0]) ?_ 2 _ rfl; (with_reducible repeat (first | refine blk_drewN ?_ _ | refine blk_drew ?_ | refine blk_alloc ?_ _)); refine blk_put (cs := #[.bool t250, .bool false, .bool false, .bool false, .bool false, .bool false, .int .i64 0, .int .i64 0, .int .i64 0, .int .i64 0]) ?_ 1 _ rfl; (with_reducible repeat (first | refine blk_drewN ?_ _ | refine blk_drew ?_ | refine blk_alloc ?_ _)); refine blk_put (cs := #[.bool false, .bool false, .bool false, .bool false, .bool false, .bool false, .int .i64 0, .int .i64 0, .int .i64 0, .int .i64 0]) ?_ 0 _ rfl; (with_reducible repeat (first | refine blk_drewN ?_ _ | refine blk_drew ?_ | refine blk_alloc ?_ _)); exact BK246.out) Try.underlying25 rfl (by kernel_rfl)) rfl ?_
    exact ⟨by first | rfl | (simp [errW_none, errW_some] <;> rfl) | (simp [*, errW_none, errW_some] <;> rfl), by repeat (first | (with_reducible first | exact HB.out | apply below_alloc | apply pw_below_drewN | apply below_drew1 | refine below_set ?_ GE246.out | refine below_set ?_ GE255.out) | exact HB.out)⟩
   ·replace c35 := Bool.eq_false_iff.mpr c35
    subst c35
    have H1 : ((spec_Words.f kj7 l0 (⟨#[112, 114, 97, 103, 109, 97]⟩ : ByteArray)).bind fun t264 => (spec_ReadDirs.l0 kj7 t264 0 t250 t251 t252 t253 x256004_7 t254 t258 t259 t260 t261)) = some (r1, r2, r3, r4, r5, r6, r7, r8, r9, r10) := by rw [if_neg (show ¬ (false = true) by decide)] at H; exact H
    clear H
    have H := H1
    clear H1
    replace H := Option.bind_eq_some_iff.mp H
    obtain ⟨t264, A480, H⟩ := H
    replace H : (spec_ReadDirs.l0 kj7 t264 0 t250 t251 t252 t253 x256004_7 t254 t258 t259 t260 t261) = some (r1, r2, r3, r4, r5, r6, r7, r8, r9, r10) := H
    have A48 := Aside0.mk A480
    clear A480
    have H' := Aside0.mk H
    clear H
    go_wp2_with (first | ((with_reducible refine gate_callee (f := 106) rfl ?_); refine goesL_ (some 30) rfl rfl Try.func106 (by kernel_rfl) rfl #[.slice Ao11 t247.length co11, .string (⟨#[109, 97, 120, 45, 97, 103, 101]⟩ : ByteArray), .int .i64 0, .int .i64 0] rfl (by (try simp only [List.map_toArray, List.map_cons, List.map_nil]); first | done | rfl | (simp only [List.length_drop, List.length_take]; rfl)) ?_; (with_reducible refine (spec_l12num.calls kj7 _ _ t247 (⟨#[109, 97, 120, 45, 97, 103, 101]⟩ : ByteArray) 0 0 t258 _ ?side1 ?side2 A30.out).mono ?_); (case side1 => repeat (first | exact (Kd.R_reads' HO_3.out).2.2 | (with_reducible refine Kd.C_alloc ?_ _) | (with_reducible refine Kd.C_drewN ?_ _) | (with_reducible refine Kd.C_drew ?_))); (case side2 => exact (Kd.R_reads' HO_3.out).2.1); rintro e w49 ⟨rfl, hb⟩; refine ⟨_, rfl, ?_⟩; have n0_ := Aside0.mk (Kd.R_below (by (with_reducible repeat (first | apply Kd.R_alloc | apply Kd.R_drewN | apply Kd.R_drew)); exact HO_3.out) hb); have n1_ := Aside0.mk (blk_below (g := gb246) (o := .cells #[.bool false, .bool false, .bool false, .bool false, .bool false, .bool false, .int .i64 0, .int .i64 0, .int .i64 0, .int .i64 0] 25 (0, 0)) (by (with_reducible repeat (first | refine blk_drewN ?_ _ | refine blk_drew ?_ | refine blk_alloc ?_ _)); exact BK246.out) hb); have n2_ := Aside0.mk (blk_below (g := gb255) (o := .cells #[.bool t250, .bool t251, .bool t252, .bool t253, .bool x256004_7, .bool t254, .int .i64 0, .int .i64 0, .int .i64 0, .int .i64 0] 25 (0, 0)) (by (with_reducible repeat (first | refine blk_drewN ?_ _ | refine blk_drew ?_ | refine blk_alloc ?_ _)); exact BK255.out) hb); have n3_ := Aside0.mk (below_step (by repeat (first | (with_reducible first | exact HB.out | apply below_alloc | apply pw_below_drewN | apply below_drew1 | refine below_set ?_ GE246.out | refine below_set ?_ GE255.out) | exact HB.out)) hb); clear HO_3; clear BK246; clear BK255; clear HB; have HO_3 := n0_; have BK246 := n1_; have BK255 := n2_; have HB := n3_; clear n0_ n1_ n2_ n3_; (try clear hb); (try clear hb2); (try clear hk); (try clear hi); have hnb50 := NB255_246.out; have hnc50 := NB246_255.out; have hcz51_0 : w49.cell? ⟨gb255, 0, none⟩ = some (.bool t250) := (blk_cell BK255.out 0).trans rfl; have hcz51_1 : w49.cell? ⟨gb255, 1, none⟩ = some (.bool t251) := (blk_cell BK255.out 1).trans rfl; have hcz51_2 : w49.cell? ⟨gb255, 2, none⟩ = some (.bool t252) := (blk_cell BK255.out 2).trans rfl; have hcz51_3 : w49.cell? ⟨gb255, 3, none⟩ = some (.bool t253) := (blk_cell BK255.out 3).trans rfl; have hcz51_4 : w49.cell? ⟨gb255, 4, none⟩ = some (.bool x256004_7) := (blk_cell BK255.out 4).trans rfl; have hcz51_5 : w49.cell? ⟨gb255, 5, none⟩ = some (.bool t254) := (blk_cell BK255.out 5).trans rfl; have hcz51_6 : w49.cell? ⟨gb255, 6, none⟩ = some (.int .i64 0) := (blk_cell BK255.out 6).trans rfl; have hcz51_7 : w49.cell? ⟨gb255, 7, none⟩ = some (.int .i64 0) := (blk_cell BK255.out 7).trans rfl; have hcz51_8 : w49.cell? ⟨gb255, 8, none⟩ = some (.int .i64 0) := (blk_cell BK255.out 8).trans rfl; have hcz51_9 : w49.cell? ⟨gb255, 9, none⟩ = some (.int .i64 0) := (blk_cell BK255.out 9).trans rfl; have hfz51_0 := blk_frozen BK255.out 0; have hfz51_1 := blk_frozen BK255.out 1; have hfz51_2 := blk_frozen BK255.out 2; have hfz51_3 := blk_frozen BK255.out 3; have hfz51_4 := blk_frozen BK255.out 4; have hfz51_5 := blk_frozen BK255.out 5; have hfz51_6 := blk_frozen BK255.out 6; have hfz51_7 := blk_frozen BK255.out 7; have hfz51_8 := blk_frozen BK255.out 8; have hfz51_9 := blk_frozen BK255.out 9) | ((with_reducible refine gate_callee (f := 106) rfl ?_); refine goesL_ (some 33) rfl rfl Try.func106 (by kernel_rfl) rfl #[.slice Ao11 t247.length co11, .string (⟨#[115, 45, 109, 97, 120, 97, 103, 101]⟩ : ByteArray), .int .i64 0, .int .i64 0] rfl (by (try simp only [List.map_toArray, List.map_cons, List.map_nil]); first | done | rfl | (simp only [List.length_drop, List.length_take]; rfl)) ?_; (with_reducible refine (spec_l12num.calls kj7 _ _ t247 (⟨#[115, 45, 109, 97, 120, 97, 103, 101]⟩ : ByteArray) 0 0 t259 _ ?side1 ?side2 A31.out).mono ?_); (case side1 => refine (Kd.R_reads' (e := 9) (base := w.heap.size) (ok := fun k_ => True) (n := t247.length) (c := co11) ?_).2.2; exact (by (with_reducible repeat (first | apply Kd.R_alloc | apply Kd.R_drewN | apply Kd.R_drew)); exact (Kd.R_mono (Kd.R_far (p := ⟨gb255, 6, none⟩) (Kd.R_types HO_3.out BK255.out (by decide)) (fun _ hk => hk.2) (.int .i64 t258)) (fun _ h_ => h_.1)))); (case side2 => exact (Kd.R_reads' HO_3.out).2.1); rintro e w52 ⟨rfl, hb⟩; refine ⟨_, rfl, ?_⟩; have n0_ := Aside0.mk (Kd.R_below (by (with_reducible repeat (first | apply Kd.R_alloc | apply Kd.R_drewN | apply Kd.R_drew)); exact (Kd.R_mono (Kd.R_far (p := ⟨gb255, 6, none⟩) (Kd.R_types HO_3.out BK255.out (by decide)) (fun _ hk => hk.2) (.int .i64 t258)) (fun _ h_ => h_.1))) hb); have n1_ := Aside0.mk (blk_below (g := gb246) (o := .cells #[.bool false, .bool false, .bool false, .bool false, .bool false, .bool false, .int .i64 0, .int .i64 0, .int .i64 0, .int .i64 0] 25 (0, 0)) (by (with_reducible repeat (first | refine blk_drewN ?_ _ | refine blk_drew ?_ | refine blk_alloc ?_ _)); refine blk_far ?_ NB246_255.out _; (with_reducible repeat (first | refine blk_drewN ?_ _ | refine blk_drew ?_ | refine blk_alloc ?_ _)); exact BK246.out) hb); have n2_ := Aside0.mk (blk_below (g := gb255) (o := .cells #[.bool t250, .bool t251, .bool t252, .bool t253, .bool x256004_7, .bool t254, .int .i64 t258, .int .i64 0, .int .i64 0, .int .i64 0] 25 (0, 0)) (by (with_reducible repeat (first | refine blk_drewN ?_ _ | refine blk_drew ?_ | refine blk_alloc ?_ _)); refine blk_put (cs := #[.bool t250, .bool t251, .bool t252, .bool t253, .bool x256004_7, .bool t254, .int .i64 0, .int .i64 0, .int .i64 0, .int .i64 0]) ?_ 6 _ rfl; (with_reducible repeat (first | refine blk_drewN ?_ _ | refine blk_drew ?_ | refine blk_alloc ?_ _)); exact BK255.out) hb); have n3_ := Aside0.mk (below_step (by repeat (first | (with_reducible first | exact HB.out | apply below_alloc | apply pw_below_drewN | apply below_drew1 | refine below_set ?_ GE246.out | refine below_set ?_ GE255.out) | exact HB.out)) hb); clear HO_3; clear BK246; clear BK255; clear HB; have HO_3 := n0_; have BK246 := n1_; have BK255 := n2_; have HB := n3_; clear n0_ n1_ n2_ n3_; (try clear hb); (try clear hb2); (try clear hk); (try clear hi); have hcz53_0 : w52.cell? ⟨gb255, 0, none⟩ = some (.bool t250) := (blk_cell BK255.out 0).trans rfl; have hcz53_1 : w52.cell? ⟨gb255, 1, none⟩ = some (.bool t251) := (blk_cell BK255.out 1).trans rfl; have hcz53_2 : w52.cell? ⟨gb255, 2, none⟩ = some (.bool t252) := (blk_cell BK255.out 2).trans rfl; have hcz53_3 : w52.cell? ⟨gb255, 3, none⟩ = some (.bool t253) := (blk_cell BK255.out 3).trans rfl; have hcz53_4 : w52.cell? ⟨gb255, 4, none⟩ = some (.bool x256004_7) := (blk_cell BK255.out 4).trans rfl; have hcz53_5 : w52.cell? ⟨gb255, 5, none⟩ = some (.bool t254) := (blk_cell BK255.out 5).trans rfl; have hcz53_6 : w52.cell? ⟨gb255, 6, none⟩ = some (.int .i64 t258) := (blk_cell BK255.out 6).trans rfl; have hcz53_7 : w52.cell? ⟨gb255, 7, none⟩ = some (.int .i64 0) := (blk_cell BK255.out 7).trans rfl; have hcz53_8 : w52.cell? ⟨gb255, 8, none⟩ = some (.int .i64 0) := (blk_cell BK255.out 8).trans rfl; have hcz53_9 : w52.cell? ⟨gb255, 9, none⟩ = some (.int .i64 0) := (blk_cell BK255.out 9).trans rfl; have hfz53_0 := blk_frozen BK255.out 0; have hfz53_1 := blk_frozen BK255.out 1; have hfz53_2 := blk_frozen BK255.out 2; have hfz53_3 := blk_frozen BK255.out 3; have hfz53_4 := blk_frozen BK255.out 4; have hfz53_5 := blk_frozen BK255.out 5; have hfz53_6 := blk_frozen BK255.out 6; have hfz53_7 := blk_frozen BK255.out 7; have hfz53_8 := blk_frozen BK255.out 8; have hfz53_9 := blk_frozen BK255.out 9) | ((with_reducible refine gate_callee (f := 106) rfl ?_); refine goesL_ (some 36) rfl rfl Try.func106 (by kernel_rfl) rfl #[.slice Ao11 t247.length co11, .string (⟨#[109, 97, 120, 45, 115, 116, 97, 108, 101]⟩ : ByteArray), .int .i64 2147483648, .int .i64 0] rfl (by (try simp only [List.map_toArray, List.map_cons, List.map_nil]); first | done | rfl | (simp only [List.length_drop, List.length_take]; rfl)) ?_; (with_reducible refine (spec_l12num.calls kj7 _ _ t247 (⟨#[109, 97, 120, 45, 115, 116, 97, 108, 101]⟩ : ByteArray) 2147483648 0 t260 _ ?side1 ?side2 A32.out).mono ?_); (case side1 => refine (Kd.R_reads' (e := 9) (base := w.heap.size) (ok := fun k_ => True) (n := t247.length) (c := co11) ?_).2.2; exact (by (with_reducible repeat (first | apply Kd.R_alloc | apply Kd.R_drewN | apply Kd.R_drew)); exact (Kd.R_mono (Kd.R_far (p := ⟨gb255, 7, none⟩) (Kd.R_types HO_3.out BK255.out (by decide)) (fun _ hk => hk.2) (.int .i64 t259)) (fun _ h_ => h_.1)))); (case side2 => exact (Kd.R_reads' HO_3.out).2.1); rintro e w54 ⟨rfl, hb⟩; refine ⟨_, rfl, ?_⟩; have n0_ := Aside0.mk (Kd.R_below (by (with_reducible repeat (first | apply Kd.R_alloc | apply Kd.R_drewN | apply Kd.R_drew)); exact (Kd.R_mono (Kd.R_far (p := ⟨gb255, 7, none⟩) (Kd.R_types HO_3.out BK255.out (by decide)) (fun _ hk => hk.2) (.int .i64 t259)) (fun _ h_ => h_.1))) hb); have n1_ := Aside0.mk (blk_below (g := gb246) (o := .cells #[.bool false, .bool false, .bool false, .bool false, .bool false, .bool false, .int .i64 0, .int .i64 0, .int .i64 0, .int .i64 0] 25 (0, 0)) (by (with_reducible repeat (first | refine blk_drewN ?_ _ | refine blk_drew ?_ | refine blk_alloc ?_ _)); refine blk_far ?_ NB246_255.out _; (with_reducible repeat (first | refine blk_drewN ?_ _ | refine blk_drew ?_ | refine blk_alloc ?_ _)); exact BK246.out) hb); have n2_ := Aside0.mk (blk_below (g := gb255) (o := .cells #[.bool t250, .bool t251, .bool t252, .bool t253, .bool x256004_7, .bool t254, .int .i64 t258, .int .i64 t259, .int .i64 0, .int .i64 0] 25 (0, 0)) (by (with_reducible repeat (first | refine blk_drewN ?_ _ | refine blk_drew ?_ | refine blk_alloc ?_ _)); refine blk_put (cs := #[.bool t250, .bool t251, .bool t252, .bool t253, .bool x256004_7, .bool t254, .int .i64 t258, .int .i64 0, .int .i64 0, .int .i64 0]) ?_ 7 _ rfl; (with_reducible repeat (first | refine blk_drewN ?_ _ | refine blk_drew ?_ | refine blk_alloc ?_ _)); exact BK255.out) hb); have n3_ := Aside0.mk (below_step (by repeat (first | (with_reducible first | exact HB.out | apply below_alloc | apply pw_below_drewN | apply below_drew1 | refine below_set ?_ GE246.out | refine below_set ?_ GE255.out) | exact HB.out)) hb); clear HO_3; clear BK246; clear BK255; clear HB; have HO_3 := n0_; have BK246 := n1_; have BK255 := n2_; have HB := n3_; clear n0_ n1_ n2_ n3_; (try clear hb); (try clear hb2); (try clear hk); (try clear hi); have hcz55_0 : w54.cell? ⟨gb255, 0, none⟩ = some (.bool t250) := (blk_cell BK255.out 0).trans rfl; have hcz55_1 : w54.cell? ⟨gb255, 1, none⟩ = some (.bool t251) := (blk_cell BK255.out 1).trans rfl; have hcz55_2 : w54.cell? ⟨gb255, 2, none⟩ = some (.bool t252) := (blk_cell BK255.out 2).trans rfl; have hcz55_3 : w54.cell? ⟨gb255, 3, none⟩ = some (.bool t253) := (blk_cell BK255.out 3).trans rfl; have hcz55_4 : w54.cell? ⟨gb255, 4, none⟩ = some (.bool x256004_7) := (blk_cell BK255.out 4).trans rfl; have hcz55_5 : w54.cell? ⟨gb255, 5, none⟩ = some (.bool t254) := (blk_cell BK255.out 5).trans rfl; have hcz55_6 : w54.cell? ⟨gb255, 6, none⟩ = some (.int .i64 t258) := (blk_cell BK255.out 6).trans rfl; have hcz55_7 : w54.cell? ⟨gb255, 7, none⟩ = some (.int .i64 t259) := (blk_cell BK255.out 7).trans rfl; have hcz55_8 : w54.cell? ⟨gb255, 8, none⟩ = some (.int .i64 0) := (blk_cell BK255.out 8).trans rfl; have hcz55_9 : w54.cell? ⟨gb255, 9, none⟩ = some (.int .i64 0) := (blk_cell BK255.out 9).trans rfl; have hfz55_0 := blk_frozen BK255.out 0; have hfz55_1 := blk_frozen BK255.out 1; have hfz55_2 := blk_frozen BK255.out 2; have hfz55_3 := blk_frozen BK255.out 3; have hfz55_4 := blk_frozen BK255.out 4; have hfz55_5 := blk_frozen BK255.out 5; have hfz55_6 := blk_frozen BK255.out 6; have hfz55_7 := blk_frozen BK255.out 7; have hfz55_8 := blk_frozen BK255.out 8; have hfz55_9 := blk_frozen BK255.out 9) | ((with_reducible refine gate_callee (f := 106) rfl ?_); refine goesL_ (some 39) rfl rfl Try.func106 (by kernel_rfl) rfl #[.slice Ao11 t247.length co11, .string (⟨#[109, 105, 110, 45, 102, 114, 101, 115, 104]⟩ : ByteArray), .int .i64 2147483648, .int .i64 2147483648] rfl (by (try simp only [List.map_toArray, List.map_cons, List.map_nil]); first | done | rfl | (simp only [List.length_drop, List.length_take]; rfl)) ?_; (with_reducible refine (spec_l12num.calls kj7 _ _ t247 (⟨#[109, 105, 110, 45, 102, 114, 101, 115, 104]⟩ : ByteArray) 2147483648 2147483648 t261 _ ?side1 ?side2 A33.out).mono ?_); (case side1 => refine (Kd.R_reads' (e := 9) (base := w.heap.size) (ok := fun k_ => True) (n := t247.length) (c := co11) ?_).2.2; exact (by (with_reducible repeat (first | apply Kd.R_alloc | apply Kd.R_drewN | apply Kd.R_drew)); exact (Kd.R_mono (Kd.R_far (p := ⟨gb255, 8, none⟩) (Kd.R_types HO_3.out BK255.out (by decide)) (fun _ hk => hk.2) (.int .i64 t260)) (fun _ h_ => h_.1)))); (case side2 => exact (Kd.R_reads' HO_3.out).2.1); rintro e w56 ⟨rfl, hb⟩; refine ⟨_, rfl, ?_⟩; have n0_ := Aside0.mk (Kd.R_below (by (with_reducible repeat (first | apply Kd.R_alloc | apply Kd.R_drewN | apply Kd.R_drew)); exact (Kd.R_mono (Kd.R_far (p := ⟨gb255, 8, none⟩) (Kd.R_types HO_3.out BK255.out (by decide)) (fun _ hk => hk.2) (.int .i64 t260)) (fun _ h_ => h_.1))) hb); have n1_ := Aside0.mk (blk_below (g := gb246) (o := .cells #[.bool false, .bool false, .bool false, .bool false, .bool false, .bool false, .int .i64 0, .int .i64 0, .int .i64 0, .int .i64 0] 25 (0, 0)) (by (with_reducible repeat (first | refine blk_drewN ?_ _ | refine blk_drew ?_ | refine blk_alloc ?_ _)); refine blk_far ?_ NB246_255.out _; (with_reducible repeat (first | refine blk_drewN ?_ _ | refine blk_drew ?_ | refine blk_alloc ?_ _)); exact BK246.out) hb); have n2_ := Aside0.mk (blk_below (g := gb255) (o := .cells #[.bool t250, .bool t251, .bool t252, .bool t253, .bool x256004_7, .bool t254, .int .i64 t258, .int .i64 t259, .int .i64 t260, .int .i64 0] 25 (0, 0)) (by (with_reducible repeat (first | refine blk_drewN ?_ _ | refine blk_drew ?_ | refine blk_alloc ?_ _)); refine blk_put (cs := #[.bool t250, .bool t251, .bool t252, .bool t253, .bool x256004_7, .bool t254, .int .i64 t258, .int .i64 t259, .int .i64 0, .int .i64 0]) ?_ 8 _ rfl; (with_reducible repeat (first | refine blk_drewN ?_ _ | refine blk_drew ?_ | refine blk_alloc ?_ _)); exact BK255.out) hb); have n3_ := Aside0.mk (below_step (by repeat (first | (with_reducible first | exact HB.out | apply below_alloc | apply pw_below_drewN | apply below_drew1 | refine below_set ?_ GE246.out | refine below_set ?_ GE255.out) | exact HB.out)) hb); clear HO_3; clear BK246; clear BK255; clear HB; have HO_3 := n0_; have BK246 := n1_; have BK255 := n2_; have HB := n3_; clear n0_ n1_ n2_ n3_; (try clear hb); (try clear hb2); (try clear hk); (try clear hi); have hcz57_0 : w56.cell? ⟨gb255, 0, none⟩ = some (.bool t250) := (blk_cell BK255.out 0).trans rfl; have hcz57_1 : w56.cell? ⟨gb255, 1, none⟩ = some (.bool t251) := (blk_cell BK255.out 1).trans rfl; have hcz57_2 : w56.cell? ⟨gb255, 2, none⟩ = some (.bool t252) := (blk_cell BK255.out 2).trans rfl; have hcz57_3 : w56.cell? ⟨gb255, 3, none⟩ = some (.bool t253) := (blk_cell BK255.out 3).trans rfl; have hcz57_4 : w56.cell? ⟨gb255, 4, none⟩ = some (.bool x256004_7) := (blk_cell BK255.out 4).trans rfl; have hcz57_5 : w56.cell? ⟨gb255, 5, none⟩ = some (.bool t254) := (blk_cell BK255.out 5).trans rfl; have hcz57_6 : w56.cell? ⟨gb255, 6, none⟩ = some (.int .i64 t258) := (blk_cell BK255.out 6).trans rfl; have hcz57_7 : w56.cell? ⟨gb255, 7, none⟩ = some (.int .i64 t259) := (blk_cell BK255.out 7).trans rfl; have hcz57_8 : w56.cell? ⟨gb255, 8, none⟩ = some (.int .i64 t260) := (blk_cell BK255.out 8).trans rfl; have hcz57_9 : w56.cell? ⟨gb255, 9, none⟩ = some (.int .i64 0) := (blk_cell BK255.out 9).trans rfl; have hfz57_0 := blk_frozen BK255.out 0; have hfz57_1 := blk_frozen BK255.out 1; have hfz57_2 := blk_frozen BK255.out 2; have hfz57_3 := blk_frozen BK255.out 3; have hfz57_4 := blk_frozen BK255.out 4; have hfz57_5 := blk_frozen BK255.out 5; have hfz57_6 := blk_frozen BK255.out 6; have hfz57_7 := blk_frozen BK255.out 7; have hfz57_8 := blk_frozen BK255.out 8; have hfz57_9 := blk_frozen BK255.out 9) | ((with_reducible refine gate_callee (f := 107) rfl ?_); refine goesL_ (some 43) rfl rfl Try.func107 (by kernel_rfl) rfl #[.slice A0 l0.length c0, .string (⟨#[99, 97, 99, 104, 101, 45, 99, 111, 110, 116, 114, 111, 108]⟩ : ByteArray)] rfl (by (try simp only [List.map_toArray, List.map_cons, List.map_nil]); first | done | rfl | (simp only [List.length_drop, List.length_take]; rfl)) ?_; (with_reducible refine (spec_Get.calls kj7 _ _ l0 (⟨#[99, 97, 99, 104, 101, 45, 99, 111, 110, 116, 114, 111, 108]⟩ : ByteArray) t262 false _ ?side1 ?side2 A34.out).mono ?_); (case side1 => exact Kd.C_below HR0.out (by repeat (first | (with_reducible first | exact HB.out | apply below_alloc | apply pw_below_drewN | apply below_drew1 | refine below_set ?_ GE246.out | refine below_set ?_ GE255.out) | exact HB.out))); (case side2 => exact HC0.out); rintro e w58 ⟨rfl, hb⟩; refine ⟨_, rfl, ?_⟩; have n0_ := Aside0.mk (Kd.R_below (by (with_reducible repeat (first | apply Kd.R_alloc | apply Kd.R_drewN | apply Kd.R_drew)); exact (Kd.R_mono (Kd.R_far (p := ⟨gb255, 9, none⟩) (Kd.R_types HO_3.out BK255.out (by decide)) (fun _ hk => hk.2) (.int .i64 t261)) (fun _ h_ => h_.1))) hb); have n1_ := Aside0.mk (blk_below (g := gb246) (o := .cells #[.bool false, .bool false, .bool false, .bool false, .bool false, .bool false, .int .i64 0, .int .i64 0, .int .i64 0, .int .i64 0] 25 (0, 0)) (by (with_reducible repeat (first | refine blk_drewN ?_ _ | refine blk_drew ?_ | refine blk_alloc ?_ _)); refine blk_far ?_ NB246_255.out _; (with_reducible repeat (first | refine blk_drewN ?_ _ | refine blk_drew ?_ | refine blk_alloc ?_ _)); exact BK246.out) hb); have n2_ := Aside0.mk (blk_below (g := gb255) (o := .cells #[.bool t250, .bool t251, .bool t252, .bool t253, .bool x256004_7, .bool t254, .int .i64 t258, .int .i64 t259, .int .i64 t260, .int .i64 t261] 25 (0, 0)) (by (with_reducible repeat (first | refine blk_drewN ?_ _ | refine blk_drew ?_ | refine blk_alloc ?_ _)); refine blk_put (cs := #[.bool t250, .bool t251, .bool t252, .bool t253, .bool x256004_7, .bool t254, .int .i64 t258, .int .i64 t259, .int .i64 t260, .int .i64 0]) ?_ 9 _ rfl; (with_reducible repeat (first | refine blk_drewN ?_ _ | refine blk_drew ?_ | refine blk_alloc ?_ _)); exact BK255.out) hb); have n3_ := Aside0.mk (below_step (by repeat (first | (with_reducible first | exact HB.out | apply below_alloc | apply pw_below_drewN | apply below_drew1 | refine below_set ?_ GE246.out | refine below_set ?_ GE255.out) | exact HB.out)) hb); clear HO_3; clear BK246; clear BK255; clear HB; have HO_3 := n0_; have BK246 := n1_; have BK255 := n2_; have HB := n3_; clear n0_ n1_ n2_ n3_; (try clear hb); (try clear hb2); (try clear hk); (try clear hi)) | ((with_reducible refine gate_callee (f := 60) rfl ?_); refine goesL_ (some 49) rfl rfl Try.func60 (by kernel_rfl) rfl #[.slice A0 l0.length c0, .string (⟨#[112, 114, 97, 103, 109, 97]⟩ : ByteArray)] rfl (by (try simp only [List.map_toArray, List.map_cons, List.map_nil]); first | done | rfl | (simp only [List.length_drop, List.length_take]; rfl)) ?_; (with_reducible refine (spec_Words.calls kj7 _ _ l0 (⟨#[112, 114, 97, 103, 109, 97]⟩ : ByteArray) t264 _ ?side1 ?side2 A48.out).mono ?_); (case side1 => repeat (first | exact (Kd.C_below HR0.out HB.out) | (with_reducible refine Kd.C_alloc ?_ _) | (with_reducible refine Kd.C_drewN ?_ _) | (with_reducible refine Kd.C_drew ?_))); (case side2 => exact HC0.out); rintro e w59 ⟨v265, rfl, ho0, hb⟩; refine ⟨_, rfl, ?_⟩; have n0_ := Aside0.mk (Kd.R_elder' (by (with_reducible repeat (first | apply Kd.R_alloc | apply Kd.R_drewN | apply Kd.R_drew)); exact HO_3.out) (Kd.R_base ho0) hb); have n1_ := Aside0.mk (Kd.R_lower (Kd.R_new' ho0 (Kd.R_lt (by (with_reducible repeat (first | apply Kd.R_alloc | apply Kd.R_drewN | apply Kd.R_drew)); exact HO_3.out))) (below_size (by repeat (first | (with_reducible first | exact HB.out | apply below_alloc | apply pw_below_drewN | apply below_drew1 | refine below_set ?_ GE246.out | refine below_set ?_ GE255.out) | exact HB.out)))); have n2_ := Aside0.mk (blk_below (g := gb246) (o := .cells #[.bool false, .bool false, .bool false, .bool false, .bool false, .bool false, .int .i64 0, .int .i64 0, .int .i64 0, .int .i64 0] 25 (0, 0)) (by (with_reducible repeat (first | refine blk_drewN ?_ _ | refine blk_drew ?_ | refine blk_alloc ?_ _)); exact BK246.out) hb); have n3_ := Aside0.mk (blk_below (g := gb255) (o := .cells #[.bool t250, .bool t251, .bool t252, .bool t253, .bool x256004_7, .bool t254, .int .i64 t258, .int .i64 t259, .int .i64 t260, .int .i64 t261] 25 (0, 0)) (by (with_reducible repeat (first | refine blk_drewN ?_ _ | refine blk_drew ?_ | refine blk_alloc ?_ _)); exact BK255.out) hb); have n4_ := Aside0.mk (below_step (by repeat (first | (with_reducible first | exact HB.out | apply below_alloc | apply pw_below_drewN | apply below_drew1 | refine below_set ?_ GE246.out | refine below_set ?_ GE255.out) | exact HB.out)) hb); clear HO_3; clear BK246; clear BK255; clear HB; have HO_3 := n0_; have HO266 := n1_; have BK246 := n2_; have BK255 := n3_; have HB := n4_; clear n0_ n1_ n2_ n3_ n4_; (try clear hb); (try clear hb2); (try clear hk); (try clear hi); (try clear ho0)))
    go_loopg [8] kj7 (fun kq v8 w' => ∃ (x8_2 : Int) (x256001_2 : Bool), v8 = .int .i64 x8_2 ∧ Aside0 (spec_ReadDirs.l0 kq t264 x8_2 t250 x256001_2 t252 t253 x256004_7 t254 t258 t259 t260 t261 = some (r1, r2, r3, r4, r5, r6, r7, r8, r9, r10)) ∧ Aside0 (kq ≤ kj7) ∧ Aside0 (Kd.R Kd.string 9 w' w.heap.size (fun _ => True) v265 t264) ∧ Aside0 (w'.heap[gb246]? = some (.cells #[.bool false, .bool false, .bool false, .bool false, .bool false, .bool false, .int .i64 0, .int .i64 0, .int .i64 0, .int .i64 0] 25 (0, 0))) ∧ Aside0 (w'.heap[gb255]? = some (.cells #[.bool t250, .bool x256001_2, .bool t252, .bool t253, .bool x256004_7, .bool t254, .int .i64 t258, .int .i64 t259, .int .i64 t260, .int .i64 t261] 25 (0, 0))) ∧ Aside0 (Below w.heap.size w w'))
    case atStart => exact ⟨(0), (t251), (by first | rfl | (simp; done) | (simp [*]; done)), H', ⟨Nat.le_refl _⟩, ⟨by (with_reducible repeat (first | apply Kd.R_alloc | apply Kd.R_drewN | apply Kd.R_drew)); exact Kd.R_mono HO266.out (fun _ hk => trivial)⟩, ⟨by (with_reducible repeat (first | refine blk_drewN ?_ _ | refine blk_drew ?_ | refine blk_alloc ?_ _)); exact BK246.out⟩, ⟨by (with_reducible repeat (first | refine blk_drewN ?_ _ | refine blk_drew ?_ | refine blk_alloc ?_ _)); exact BK255.out⟩, ⟨by repeat (first | (with_reducible first | exact HB.out | apply below_alloc | apply pw_below_drewN | apply below_drew1 | refine below_set ?_ GE246.out | refine below_set ?_ GE255.out) | exact HB.out)⟩⟩
    case round =>
     clear H'
     try clear c1
     try clear c2
     try clear p2
     try clear c3
     try clear c5
     try clear c6
     try clear c10
     try clear c18
     try clear c21
     try clear c23
     try clear c28
     try clear c35
     try clear c37
     try clear c50
     try clear hcz19_0
     try clear hcz19_1
     try clear hcz19_2
     try clear hcz19_3
     try clear hcz19_4
     try clear hcz19_5
     try clear hcz19_6
     try clear hcz19_7
     try clear hcz19_8
     try clear hcz19_9
     try clear hcz24_0
     try clear hcz24_1
     try clear hcz24_2
     try clear hcz24_3
     try clear hcz24_4
     try clear hcz24_5
     try clear hcz24_6
     try clear hcz24_7
     try clear hcz24_8
     try clear hcz24_9
     try clear hcz29_0
     try clear hcz29_1
     try clear hcz29_2
     try clear hcz29_3
     try clear hcz29_4
     try clear hcz29_5
     try clear hcz29_6
     try clear hcz29_7
     try clear hcz29_8
     try clear hcz29_9
     try clear hcz38_0
     try clear hcz38_1
     try clear hcz38_2
     try clear hcz38_3
     try clear hcz38_4
     try clear hcz38_5
     try clear hcz38_6
     try clear hcz38_7
     try clear hcz38_8
     try clear hcz38_9
     try clear hcz40_0
     try clear hcz40_1
     try clear hcz40_2
     try clear hcz40_3
     try clear hcz40_4
     try clear hcz40_5
     try clear hcz40_6
     try clear hcz40_7
     try clear hcz40_8
     try clear hcz40_9
     try clear hcz42_0
     try clear hcz42_1
     try clear hcz42_2
     try clear hcz42_3
     try clear hcz42_4
     try clear hcz42_5
     try clear hcz42_6
     try clear hcz42_7
     try clear hcz42_8
     try clear hcz42_9
     try clear hcz44_0
     try clear hcz44_1
     try clear hcz44_2
     try clear hcz44_3
     try clear hcz44_4
     try clear hcz44_5
     try clear hcz44_6
     try clear hcz44_7
     try clear hcz44_8
     try clear hcz44_9
     try clear hcz46_0
     try clear hcz46_1
     try clear hcz46_2
     try clear hcz46_3
     try clear hcz46_4
     try clear hcz46_5
     try clear hcz46_6
     try clear hcz46_7
     try clear hcz46_8
     try clear hcz46_9
     try clear hcz47_0
     try clear hcz47_1
     try clear hcz47_2
     try clear hcz47_3
     try clear hcz47_4
     try clear hcz47_5
     try clear hcz47_6
     try clear hcz47_7
     try clear hcz47_8
     try clear hcz47_9
     try clear hcz51_0
     try clear hcz51_1
     try clear hcz51_2
     try clear hcz51_3
     try clear hcz51_4
     try clear hcz51_5
     try clear hcz51_6
     try clear hcz51_7
     try clear hcz51_8
     try clear hcz51_9
     try clear hcz53_0
     try clear hcz53_1
     try clear hcz53_2
     try clear hcz53_3
     try clear hcz53_4
     try clear hcz53_5
     try clear hcz53_6
     try clear hcz53_7
     try clear hcz53_8
     try clear hcz53_9
     try clear hcz55_0
     try clear hcz55_1
     try clear hcz55_2
     try clear hcz55_3
     try clear hcz55_4
     try clear hcz55_5
     try clear hcz55_6
     try clear hcz55_7
     try clear hcz55_8
     try clear hcz55_9
     try clear hcz57_0
     try clear hcz57_1
     try clear hcz57_2
     try clear hcz57_3
     try clear hcz57_4
     try clear hcz57_5
     try clear hcz57_6
     try clear hcz57_7
     try clear hcz57_8
     try clear hcz57_9
     try clear hfz19_0
     try clear hfz19_1
     try clear hfz19_2
     try clear hfz19_3
     try clear hfz19_4
     try clear hfz19_5
     try clear hfz19_6
     try clear hfz19_7
     try clear hfz19_8
     try clear hfz19_9
     try clear hfz24_0
     try clear hfz24_1
     try clear hfz24_2
     try clear hfz24_3
     try clear hfz24_4
     try clear hfz24_5
     try clear hfz24_6
     try clear hfz24_7
     try clear hfz24_8
     try clear hfz24_9
     try clear hfz29_0
     try clear hfz29_1
     try clear hfz29_2
     try clear hfz29_3
     try clear hfz29_4
     try clear hfz29_5
     try clear hfz29_6
     try clear hfz29_7
     try clear hfz29_8
     try clear hfz29_9
     try clear hfz38_0
     try clear hfz38_1
     try clear hfz38_2
     try clear hfz38_3
     try clear hfz38_4
     try clear hfz38_5
     try clear hfz38_6
     try clear hfz38_7
     try clear hfz38_8
     try clear hfz38_9
     try clear hfz40_0
     try clear hfz40_1
     try clear hfz40_2
     try clear hfz40_3
     try clear hfz40_4
     try clear hfz40_5
     try clear hfz40_6
     try clear hfz40_7
     try clear hfz40_8
     try clear hfz40_9
     try clear hfz42_0
     try clear hfz42_1
     try clear hfz42_2
     try clear hfz42_3
     try clear hfz42_4
     try clear hfz42_5
     try clear hfz42_6
     try clear hfz42_7
     try clear hfz42_8
     try clear hfz42_9
     try clear hfz44_0
     try clear hfz44_1
     try clear hfz44_2
     try clear hfz44_3
     try clear hfz44_4
     try clear hfz44_5
     try clear hfz44_6
     try clear hfz44_7
     try clear hfz44_8
     try clear hfz44_9
     try clear hfz46_0
     try clear hfz46_1
     try clear hfz46_2
     try clear hfz46_3
     try clear hfz46_4
     try clear hfz46_5
     try clear hfz46_6
     try clear hfz46_7
     try clear hfz46_8
     try clear hfz46_9
     try clear hfz47_0
     try clear hfz47_1
     try clear hfz47_2
     try clear hfz47_3
     try clear hfz47_4
     try clear hfz47_5
     try clear hfz47_6
     try clear hfz47_7
     try clear hfz47_8
     try clear hfz47_9
     try clear hfz51_0
     try clear hfz51_1
     try clear hfz51_2
     try clear hfz51_3
     try clear hfz51_4
     try clear hfz51_5
     try clear hfz51_6
     try clear hfz51_7
     try clear hfz51_8
     try clear hfz51_9
     try clear hfz53_0
     try clear hfz53_1
     try clear hfz53_2
     try clear hfz53_3
     try clear hfz53_4
     try clear hfz53_5
     try clear hfz53_6
     try clear hfz53_7
     try clear hfz53_8
     try clear hfz53_9
     try clear hfz55_0
     try clear hfz55_1
     try clear hfz55_2
     try clear hfz55_3
     try clear hfz55_4
     try clear hfz55_5
     try clear hfz55_6
     try clear hfz55_7
     try clear hfz55_8
     try clear hfz55_9
     try clear hfz57_0
     try clear hfz57_1
     try clear hfz57_2
     try clear hfz57_3
     try clear hfz57_4
     try clear hfz57_5
     try clear hfz57_6
     try clear hfz57_7
     try clear hfz57_8
     try clear hfz57_9
     try clear p2
     obtain ⟨x8_2, x256001_2, rfl, HA, HK2, HO_7, BK246, BK255, HB⟩ := hrel
     cases gk with
     | zero => exact absurd HA.out (by simp [spec_ReadDirs.l0])
     | succ k2 =>
      have H := HA.out
      clear HA
      simp only [spec_ReadDirs.l0] at H
      by_cases c60 : x8_2 < (t264.length : Int)
      ·rw [if_pos c60] at H
       have c60b0 : decide (x8_2 < (t264.length : Int)) = true := decide_eq_true c60
       clear c60
       by_cases c61 : x256001_2 = true
       ·subst c61
        have H1 : (spec_ReadDirs.l0 k2 t264 (wrap64 (x8_2 + 1)) t250 true t252 t253 x256004_7 t254 t258 t259 t260 t261) = some (r1, r2, r3, r4, r5, r6, r7, r8, r9, r10) := by rw [if_pos rfl] at H; exact H
        clear H
        have H := H1
        clear H1
        have H' := Aside0.mk H
        clear H
        obtain ⟨Ao62, co62, eo62⟩ := Kd.R_slice HO_7.out
        subst eo62
        have hnb63 := NB255_246.out
        have hnc63 := NB246_255.out
        have hcz64_0 : wr.cell? ⟨gb255, 0, none⟩ = some (.bool t250) := (blk_cell BK255.out 0).trans rfl
        have hcz64_1 : wr.cell? ⟨gb255, 1, none⟩ = some (.bool true) := (blk_cell BK255.out 1).trans rfl
        have hcz64_2 : wr.cell? ⟨gb255, 2, none⟩ = some (.bool t252) := (blk_cell BK255.out 2).trans rfl
        have hcz64_3 : wr.cell? ⟨gb255, 3, none⟩ = some (.bool t253) := (blk_cell BK255.out 3).trans rfl
        have hcz64_4 : wr.cell? ⟨gb255, 4, none⟩ = some (.bool x256004_7) := (blk_cell BK255.out 4).trans rfl
        have hcz64_5 : wr.cell? ⟨gb255, 5, none⟩ = some (.bool t254) := (blk_cell BK255.out 5).trans rfl
        have hcz64_6 : wr.cell? ⟨gb255, 6, none⟩ = some (.int .i64 t258) := (blk_cell BK255.out 6).trans rfl
        have hcz64_7 : wr.cell? ⟨gb255, 7, none⟩ = some (.int .i64 t259) := (blk_cell BK255.out 7).trans rfl
        have hcz64_8 : wr.cell? ⟨gb255, 8, none⟩ = some (.int .i64 t260) := (blk_cell BK255.out 8).trans rfl
        have hcz64_9 : wr.cell? ⟨gb255, 9, none⟩ = some (.int .i64 t261) := (blk_cell BK255.out 9).trans rfl
        have hfz64_0 := blk_frozen BK255.out 0
        have hfz64_1 := blk_frozen BK255.out 1
        have hfz64_2 := blk_frozen BK255.out 2
        have hfz64_3 := blk_frozen BK255.out 3
        have hfz64_4 := blk_frozen BK255.out 4
        have hfz64_5 := blk_frozen BK255.out 5
        have hfz64_6 := blk_frozen BK255.out 6
        have hfz64_7 := blk_frozen BK255.out 7
        have hfz64_8 := blk_frozen BK255.out 8
        have hfz64_9 := blk_frozen BK255.out 9
        go_wp2
        go_roundg k2
        case measure => have := HJ7.out; have := HK2.out; omega
        case rel => exact ⟨(wrap64 (x8_2 + 1)), (true), (by first | rfl | (simp; done) | (simp [*]; done)), H', ⟨by have := HJ7.out; have := HK2.out; omega⟩, ⟨by (with_reducible repeat (first | apply Kd.R_alloc | apply Kd.R_drewN | apply Kd.R_drew)); exact Kd.R_mono (Kd.R_far (p := ⟨gb255, 1, none⟩) (Kd.R_types HO_7.out BK255.out (by decide)) (fun _ hk => hk.2) (.bool true)) (fun _ hk => trivial)⟩, ⟨by (with_reducible repeat (first | refine blk_drewN ?_ _ | refine blk_drew ?_ | refine blk_alloc ?_ _)); refine blk_far ?_ NB246_255.out _; (with_reducible repeat (first | refine blk_drewN ?_ _ | refine blk_drew ?_ | refine blk_alloc ?_ _)); exact BK246.out⟩, ⟨by (with_reducible repeat (first | refine blk_drewN ?_ _ | refine blk_drew ?_ | refine blk_alloc ?_ _)); refine blk_put (cs := #[.bool t250, .bool true, .bool t252, .bool t253, .bool x256004_7, .bool t254, .int .i64 t258, .int .i64 t259, .int .i64 t260, .int .i64 t261]) ?_ 1 _ rfl; (with_reducible repeat (first | refine blk_drewN ?_ _ | refine blk_drew ?_ | refine blk_alloc ?_ _)); exact BK255.out⟩, ⟨by repeat (first | (with_reducible first | exact HB.out | apply below_alloc | apply pw_below_drewN | apply below_drew1 | refine below_set ?_ GE246.out | refine below_set ?_ GE255.out) | exact HB.out)⟩⟩
       ·replace c61 := Bool.eq_false_iff.mpr c61
        subst c61
        have H1 : (if 0 ≤ x8_2 then ((spec_Fold.f (rdOf ByteArray.empty t264 x8_2)).bind fun t268 => (spec_ReadDirs.l0 k2 t264 (wrap64 (x8_2 + 1)) t250 (t268.toList == ([110, 111, 45, 99, 97, 99, 104, 101] : List UInt8)) t252 t253 x256004_7 t254 t258 t259 t260 t261)) else (none)) = some (r1, r2, r3, r4, r5, r6, r7, r8, r9, r10) := by rw [if_neg (show ¬ (false = true) by decide)] at H; exact H
        clear H
        have H := H1
        clear H1
        by_cases c65 : 0 ≤ x8_2
        ·rw [if_pos c65] at H
         have c65b0 : decide (0 ≤ x8_2) = true := decide_eq_true c65
         clear c65
         replace H := Option.bind_eq_some_iff.mp H
         obtain ⟨t268, A660, H⟩ := H
         replace H : (spec_ReadDirs.l0 k2 t264 (wrap64 (x8_2 + 1)) t250 (t268.toList == ([110, 111, 45, 99, 97, 99, 104, 101] : List UInt8)) t252 t253 x256004_7 t254 t258 t259 t260 t261) = some (r1, r2, r3, r4, r5, r6, r7, r8, r9, r10) := H
         have A66 := Aside0.mk A660
         clear A660
         have H' := Aside0.mk H
         clear H
         obtain ⟨Ao67, co67, eo67⟩ := Kd.R_slice HO_7.out
         subst eo67
         have hnb68 := NB255_246.out
         have hnc68 := NB246_255.out
         have hcz69_0 : wr.cell? ⟨gb255, 0, none⟩ = some (.bool t250) := (blk_cell BK255.out 0).trans rfl
         have hcz69_1 : wr.cell? ⟨gb255, 1, none⟩ = some (.bool false) := (blk_cell BK255.out 1).trans rfl
         have hcz69_2 : wr.cell? ⟨gb255, 2, none⟩ = some (.bool t252) := (blk_cell BK255.out 2).trans rfl
         have hcz69_3 : wr.cell? ⟨gb255, 3, none⟩ = some (.bool t253) := (blk_cell BK255.out 3).trans rfl
         have hcz69_4 : wr.cell? ⟨gb255, 4, none⟩ = some (.bool x256004_7) := (blk_cell BK255.out 4).trans rfl
         have hcz69_5 : wr.cell? ⟨gb255, 5, none⟩ = some (.bool t254) := (blk_cell BK255.out 5).trans rfl
         have hcz69_6 : wr.cell? ⟨gb255, 6, none⟩ = some (.int .i64 t258) := (blk_cell BK255.out 6).trans rfl
         have hcz69_7 : wr.cell? ⟨gb255, 7, none⟩ = some (.int .i64 t259) := (blk_cell BK255.out 7).trans rfl
         have hcz69_8 : wr.cell? ⟨gb255, 8, none⟩ = some (.int .i64 t260) := (blk_cell BK255.out 8).trans rfl
         have hcz69_9 : wr.cell? ⟨gb255, 9, none⟩ = some (.int .i64 t261) := (blk_cell BK255.out 9).trans rfl
         have hfz69_0 := blk_frozen BK255.out 0
         have hfz69_1 := blk_frozen BK255.out 1
         have hfz69_2 := blk_frozen BK255.out 2
         have hfz69_3 := blk_frozen BK255.out 3
         have hfz69_4 := blk_frozen BK255.out 4
         have hfz69_5 := blk_frozen BK255.out 5
         have hfz69_6 := blk_frozen BK255.out 6
         have hfz69_7 := blk_frozen BK255.out 7
         have hfz69_8 := blk_frozen BK255.out 8
         have hfz69_9 := blk_frozen BK255.out 9
         have p267 : 0 ≤ (x8_2 : Int) := of_decide_eq_true (by first | (with_reducible assumption) | assumption)
         have q267 : x8_2 < (t264.length : Int) := of_decide_eq_true (by first | (with_reducible assumption) | assumption)
         obtain ⟨ad267, e267, hx267_0⟩ := Kd.at_string (Kd.R_reads' HO_7.out).2.2 x8_2 p267 q267
         cases e267
         replace p267 := eq_true p267
         replace q267 := eq_true q267
         go_wp2_with (first | (go_at_call 108; (with_reducible refine (spec_Fold.calls (rdOf ByteArray.empty t264 x8_2) t268 _ A66.out).mono ?_); rintro e w70 ⟨rfl, hb⟩; have n0_ := Aside0.mk (Kd.R_below (by (with_reducible repeat (first | apply Kd.R_alloc | apply Kd.R_drewN | apply Kd.R_drew)); exact HO_7.out) hb); have n1_ := Aside0.mk (blk_below (g := gb246) (o := .cells #[.bool false, .bool false, .bool false, .bool false, .bool false, .bool false, .int .i64 0, .int .i64 0, .int .i64 0, .int .i64 0] 25 (0, 0)) (by (with_reducible repeat (first | refine blk_drewN ?_ _ | refine blk_drew ?_ | refine blk_alloc ?_ _)); exact BK246.out) hb); have n2_ := Aside0.mk (blk_below (g := gb255) (o := .cells #[.bool t250, .bool false, .bool t252, .bool t253, .bool x256004_7, .bool t254, .int .i64 t258, .int .i64 t259, .int .i64 t260, .int .i64 t261] 25 (0, 0)) (by (with_reducible repeat (first | refine blk_drewN ?_ _ | refine blk_drew ?_ | refine blk_alloc ?_ _)); exact BK255.out) hb); have n3_ := Aside0.mk (below_step (by repeat (first | (with_reducible first | exact HB.out | apply below_alloc | apply pw_below_drewN | apply below_drew1 | refine below_set ?_ GE246.out | refine below_set ?_ GE255.out) | exact HB.out)) hb); clear HO_7; clear BK246; clear BK255; clear HB; have HO_7 := n0_; have BK246 := n1_; have BK255 := n2_; have HB := n3_; clear n0_ n1_ n2_ n3_; (try clear hb); (try clear hb2); (try clear hk); (try clear hi); have hcz71_0 : w70.cell? ⟨gb255, 0, none⟩ = some (.bool t250) := (blk_cell BK255.out 0).trans rfl; have hcz71_1 : w70.cell? ⟨gb255, 1, none⟩ = some (.bool false) := (blk_cell BK255.out 1).trans rfl; have hcz71_2 : w70.cell? ⟨gb255, 2, none⟩ = some (.bool t252) := (blk_cell BK255.out 2).trans rfl; have hcz71_3 : w70.cell? ⟨gb255, 3, none⟩ = some (.bool t253) := (blk_cell BK255.out 3).trans rfl; have hcz71_4 : w70.cell? ⟨gb255, 4, none⟩ = some (.bool x256004_7) := (blk_cell BK255.out 4).trans rfl; have hcz71_5 : w70.cell? ⟨gb255, 5, none⟩ = some (.bool t254) := (blk_cell BK255.out 5).trans rfl; have hcz71_6 : w70.cell? ⟨gb255, 6, none⟩ = some (.int .i64 t258) := (blk_cell BK255.out 6).trans rfl; have hcz71_7 : w70.cell? ⟨gb255, 7, none⟩ = some (.int .i64 t259) := (blk_cell BK255.out 7).trans rfl; have hcz71_8 : w70.cell? ⟨gb255, 8, none⟩ = some (.int .i64 t260) := (blk_cell BK255.out 8).trans rfl; have hcz71_9 : w70.cell? ⟨gb255, 9, none⟩ = some (.int .i64 t261) := (blk_cell BK255.out 9).trans rfl; have hfz71_0 := blk_frozen BK255.out 0; have hfz71_1 := blk_frozen BK255.out 1; have hfz71_2 := blk_frozen BK255.out 2; have hfz71_3 := blk_frozen BK255.out 3; have hfz71_4 := blk_frozen BK255.out 4; have hfz71_5 := blk_frozen BK255.out 5; have hfz71_6 := blk_frozen BK255.out 6; have hfz71_7 := blk_frozen BK255.out 7; have hfz71_8 := blk_frozen BK255.out 8; have hfz71_9 := blk_frozen BK255.out 9))
         go_roundg k2
         case measure => have := HJ7.out; have := HK2.out; omega
         case rel => exact ⟨(wrap64 (x8_2 + 1)), ((t268.toList == ([110, 111, 45, 99, 97, 99, 104, 101] : List UInt8))), (by first | rfl | (simp; done) | (simp [*]; done)), H', ⟨by have := HJ7.out; have := HK2.out; omega⟩, ⟨by (with_reducible repeat (first | apply Kd.R_alloc | apply Kd.R_drewN | apply Kd.R_drew)); exact Kd.R_mono (Kd.R_far (p := ⟨gb255, 1, none⟩) (Kd.R_types HO_7.out BK255.out (by decide)) (fun _ hk => hk.2) (.bool (t268.toList == ([110, 111, 45, 99, 97, 99, 104, 101] : List UInt8)))) (fun _ hk => trivial)⟩, ⟨by (with_reducible repeat (first | refine blk_drewN ?_ _ | refine blk_drew ?_ | refine blk_alloc ?_ _)); refine blk_far ?_ NB246_255.out _; (with_reducible repeat (first | refine blk_drewN ?_ _ | refine blk_drew ?_ | refine blk_alloc ?_ _)); exact BK246.out⟩, ⟨by (with_reducible repeat (first | refine blk_drewN ?_ _ | refine blk_drew ?_ | refine blk_alloc ?_ _)); refine blk_put (cs := #[.bool t250, .bool false, .bool t252, .bool t253, .bool x256004_7, .bool t254, .int .i64 t258, .int .i64 t259, .int .i64 t260, .int .i64 t261]) ?_ 1 _ rfl; (with_reducible repeat (first | refine blk_drewN ?_ _ | refine blk_drew ?_ | refine blk_alloc ?_ _)); exact BK255.out⟩, ⟨by repeat (first | (with_reducible first | exact HB.out | apply below_alloc | apply pw_below_drewN | apply below_drew1 | refine below_set ?_ GE246.out | refine below_set ?_ GE255.out) | exact HB.out)⟩⟩
        ·rw [if_neg c65] at H
         exact absurd H (by simp)
      ·rw [if_neg c60] at H
       have c60b0 : decide (x8_2 < (t264.length : Int)) = false := decide_eq_false c60
       clear c60
       simp only [Option.some.injEq, Prod.mk.injEq] at H
       obtain ⟨rfl, rfl, rfl, rfl, rfl, rfl, rfl, rfl, rfl, rfl⟩ := H
       obtain ⟨Ao72, co72, eo72⟩ := Kd.R_slice HO_7.out
       subst eo72
       have hnb73 := NB255_246.out
       have hnc73 := NB246_255.out
       have hcz74_0 : wr.cell? ⟨gb255, 0, none⟩ = some (.bool t250) := (blk_cell BK255.out 0).trans rfl
       have hcz74_1 : wr.cell? ⟨gb255, 1, none⟩ = some (.bool x256001_2) := (blk_cell BK255.out 1).trans rfl
       have hcz74_2 : wr.cell? ⟨gb255, 2, none⟩ = some (.bool t252) := (blk_cell BK255.out 2).trans rfl
       have hcz74_3 : wr.cell? ⟨gb255, 3, none⟩ = some (.bool t253) := (blk_cell BK255.out 3).trans rfl
       have hcz74_4 : wr.cell? ⟨gb255, 4, none⟩ = some (.bool x256004_7) := (blk_cell BK255.out 4).trans rfl
       have hcz74_5 : wr.cell? ⟨gb255, 5, none⟩ = some (.bool t254) := (blk_cell BK255.out 5).trans rfl
       have hcz74_6 : wr.cell? ⟨gb255, 6, none⟩ = some (.int .i64 t258) := (blk_cell BK255.out 6).trans rfl
       have hcz74_7 : wr.cell? ⟨gb255, 7, none⟩ = some (.int .i64 t259) := (blk_cell BK255.out 7).trans rfl
       have hcz74_8 : wr.cell? ⟨gb255, 8, none⟩ = some (.int .i64 t260) := (blk_cell BK255.out 8).trans rfl
       have hcz74_9 : wr.cell? ⟨gb255, 9, none⟩ = some (.int .i64 t261) := (blk_cell BK255.out 9).trans rfl
       have hfz74_0 := blk_frozen BK255.out 0
       have hfz74_1 := blk_frozen BK255.out 1
       have hfz74_2 := blk_frozen BK255.out 2
       have hfz74_3 := blk_frozen BK255.out 3
       have hfz74_4 := blk_frozen BK255.out 4
       have hfz74_5 := blk_frozen BK255.out 5
       have hfz74_6 := blk_frozen BK255.out 6
       have hfz74_7 := blk_frozen BK255.out 7
       have hfz74_8 := blk_frozen BK255.out 8
       have hfz74_9 := blk_frozen BK255.out 9
       have hcz75_0 : wr.cell? ⟨gb246, 0, none⟩ = some (.bool false) := (blk_cell BK246.out 0).trans rfl
       have hcz75_1 : wr.cell? ⟨gb246, 1, none⟩ = some (.bool false) := (blk_cell BK246.out 1).trans rfl
       have hcz75_2 : wr.cell? ⟨gb246, 2, none⟩ = some (.bool false) := (blk_cell BK246.out 2).trans rfl
       have hcz75_3 : wr.cell? ⟨gb246, 3, none⟩ = some (.bool false) := (blk_cell BK246.out 3).trans rfl
       have hcz75_4 : wr.cell? ⟨gb246, 4, none⟩ = some (.bool false) := (blk_cell BK246.out 4).trans rfl
       have hcz75_5 : wr.cell? ⟨gb246, 5, none⟩ = some (.bool false) := (blk_cell BK246.out 5).trans rfl
       have hcz75_6 : wr.cell? ⟨gb246, 6, none⟩ = some (.int .i64 0) := (blk_cell BK246.out 6).trans rfl
       have hcz75_7 : wr.cell? ⟨gb246, 7, none⟩ = some (.int .i64 0) := (blk_cell BK246.out 7).trans rfl
       have hcz75_8 : wr.cell? ⟨gb246, 8, none⟩ = some (.int .i64 0) := (blk_cell BK246.out 8).trans rfl
       have hcz75_9 : wr.cell? ⟨gb246, 9, none⟩ = some (.int .i64 0) := (blk_cell BK246.out 9).trans rfl
       have hfz75_0 := blk_frozen BK246.out 0
       have hfz75_1 := blk_frozen BK246.out 1
       have hfz75_2 := blk_frozen BK246.out 2
       have hfz75_3 := blk_frozen BK246.out 3
       have hfz75_4 := blk_frozen BK246.out 4
       have hfz75_5 := blk_frozen BK246.out 5
       have hfz75_6 := blk_frozen BK246.out 6
       have hfz75_7 := blk_frozen BK246.out 7
       have hfz75_8 := blk_frozen BK246.out 8
       have hfz75_9 := blk_frozen BK246.out 9
       go_wp2
       refine bodyPost_ret (results_cell_row rfl _ _ gb246 25 #[.bool t250, .bool x256001_2, .bool t252, .bool t253, .bool x256004_7, .bool t254, .int .i64 t258, .int .i64 t259, .int .i64 t260, .int .i64 t261] (0, 0) _ rfl (by (with_reducible repeat (first | refine blk_drewN ?_ _ | refine blk_drew ?_ | refine blk_alloc ?_ _)); refine blk_put (cs := #[.bool t250, .bool x256001_2, .bool t252, .bool t253, .bool x256004_7, .bool t254, .int .i64 t258, .int .i64 t259, .int .i64 t260, .int .i64 0]) ?_ 9 _ rfl; (with_reducible repeat (first | refine blk_drewN ?_ _ | refine blk_drew ?_ | refine blk_alloc ?_ _)); refine blk_put (cs := #[.bool t250, .bool x256001_2, .bool t252, .bool t253, .bool x256004_7, .bool t254, .int .i64 t258, .int .i64 t259, .int .i64 0, .int .i64 0]) ?_ 8 _ rfl; (with_reducible repeat (first | refine blk_drewN ?_ _ | refine blk_drew ?_ | refine blk_alloc ?_ _)); refine blk_put (cs := #[.bool t250, .bool x256001_2, .bool t252, .bool t253, .bool x256004_7, .bool t254, .int .i64 t258, .int .i64 0, .int .i64 0, .int .i64 0]) ?_ 7 _ rfl; (with_reducible repeat (first | refine blk_drewN ?_ _ | refine blk_drew ?_ | refine blk_alloc ?_ _)); refine blk_put (cs := #[.bool t250, .bool x256001_2, .bool t252, .bool t253, .bool x256004_7, .bool t254, .int .i64 0, .int .i64 0, .int .i64 0, .int .i64 0]) ?_ 6 _ rfl; (with_reducible repeat (first | refine blk_drewN ?_ _ | refine blk_drew ?_ | refine blk_alloc ?_ _)); refine blk_put (cs := #[.bool t250, .bool x256001_2, .bool t252, .bool t253, .bool x256004_7, .bool false, .int .i64 0, .int .i64 0, .int .i64 0, .int .i64 0]) ?_ 5 _ rfl; (with_reducible repeat (first | refine blk_drewN ?_ _ | refine blk_drew ?_ | refine blk_alloc ?_ _)); refine blk_put (cs := #[.bool t250, .bool x256001_2, .bool t252, .bool t253, .bool false, .bool false, .int .i64 0, .int .i64 0, .int .i64 0, .int .i64 0]) ?_ 4 _ rfl; (with_reducible repeat (first | refine blk_drewN ?_ _ | refine blk_drew ?_ | refine blk_alloc ?_ _)); refine blk_put (cs := #[.bool t250, .bool x256001_2, .bool t252, .bool false, .bool false, .bool false, .int .i64 0, .int .i64 0, .int .i64 0, .int .i64 0]) ?_ 3 _ rfl; (with_reducible repeat (first | refine blk_drewN ?_ _ | refine blk_drew ?_ | refine blk_alloc ?_ _)); refine blk_put (cs := #[.bool t250, .bool x256001_2, .bool false, .bool false, .bool false, .bool false, .int .i64 0, .int .i64 0, .int .i64 0, .int .i64 0]) ?_ 2 _ rfl; (with_reducible repeat (first | refine blk_drewN ?_ _ | refine blk_drew ?_ | refine blk_alloc ?_ _)); refine blk_put (cs := #[.bool t250, .bool false, .bool false, .bool false, .bool false, .bool false, .int .i64 0, .int .i64 0, .int .i64 0, .int .i64 0]) ?_ 1 _ rfl; (with_reducible repeat (first | refine blk_drewN ?_ _ | refine blk_drew ?_ | refine blk_alloc ?_ _)); refine blk_put (cs := #[.bool false, .bool false, .bool false, .bool false, .bool false, .bool false, .int .i64 0, .int .i64 0, .int .i64 0, .int .i64 0]) ?_ 0 _ rfl; (with_reducible repeat (first | refine blk_drewN ?_ _ | refine blk_drew ?_ | refine blk_alloc ?_ _)); exact BK246.out) Try.underlying25 rfl (by kernel_rfl)) rfl ?_
       exact ⟨by first | rfl | (simp [errW_none, errW_some] <;> rfl) | (simp [*, errW_none, errW_some] <;> rfl), by repeat (first | (with_reducible first | exact HB.out | apply below_alloc | apply pw_below_drewN | apply below_drew1 | refine below_set ?_ GE246.out | refine below_set ?_ GE255.out) | exact HB.out)⟩

end Go.Proofs.Ytahgiblifkchaaa.P
