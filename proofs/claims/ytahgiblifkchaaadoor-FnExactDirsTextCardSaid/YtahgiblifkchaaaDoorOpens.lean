/- How the laws' structs are laid open, type by type: plain lemmas; no condition. -/
import Derived.Test.YtahgiblifkchaaaDoorOpen
import Derived.Test.YtahgiblifkchaaaDoorPx0
namespace Go.Proofs.YtahgiblifkchaaaDoor.P
open Go Go.RowKit Go.ChangeShapes Go.WideShapes Go.Deep Go.Proofs.YtahgiblifkchaaaDoorW.PrintWords Go.Proofs.YtahgiblifkchaaaDoorW.PrintLast
set_option linter.unusedVariables false
set_option linter.unusedSimpArgs false
set_option maxRecDepth 100000
set_option maxHeartbeats 2000000
structure S23 where
  f0 : Bool
  f1 : Bool
  f2 : Bool
  f3 : Bool
  f4 : Bool
  f5 : Bool
  f6 : Int
  f7 : Int
  f8 : Int
  f9 : Int
/-- The numbers fit their kinds; the texts are no longer than what can be read. -/
def G23 (x : S23) : Prop := (Lit.int .i64 x.f6).wf = true ∧ (Lit.int .i64 x.f7).wf = true ∧ (Lit.int .i64 x.f8).wf = true ∧ (Lit.int .i64 x.f9).wf = true ∧ True
def Z23 (x : S23) : Prop := True
theorem opens23 {H : Type} {enc : TypeId × Value → H} {w : World} {spare : Nat → Bool} {held : Bool} (n : Nat) (cs : List Value) (x : DataW H × List MemPlace) (h : DataW.trod enc Tryd.prog w 0 spare held n 23 cs = some x) :
    ∃ v : S23, cs = [.bool v.f0, .bool v.f1, .bool v.f2, .bool v.f3, .bool v.f4, .bool v.f5, .int .i64 v.f6, .int .i64 v.f7, .int .i64 v.f8, .int .i64 v.f9] ∧ G23 v ∧ ((∀ m, m ∈ x.1.weights Tryd.prog 23 → m ≤ 140737488351232) → Z23 v) := by
  obtain ⟨xs, n', rfl, rfl, hl0, hxl0, hf⟩ := DataW.trod_struct Tryd.underlying23 h
  have hl : cs.length = 10 := hl0.trans (by kernel_rfl)
  have hxl : xs.length = 10 := hxl0
  have q3 : Tryd.prog.cellsOf 3 = 1 := by kernel_rfl
  have q4 : Tryd.prog.cellsOf 4 = 1 := by kernel_rfl
  match cs, hl with
  | [c0, c1, c2, c3, c4, c5, c6, c7, c8, c9], _ =>
    match xs, hxl with
    | [y0, y1, y2, y3, y4, y5, y6, y7, y8, y9], _ =>
      have g0 : DataW.trod enc Tryd.prog w 0 spare held n' 4 [c0] = some y0 := by have g_ := hf 0 _ rfl; simpa [q4] using g_
      obtain ⟨s0, e0, rfl⟩ := DataW.trod_bool Tryd.underlying4 g0
      obtain rfl := List.singleton_inj.1 e0
      have g1 : DataW.trod enc Tryd.prog w 0 spare held n' 4 [c1] = some y1 := by have g_ := hf 1 _ rfl; simpa [q4] using g_
      obtain ⟨s1, e1, rfl⟩ := DataW.trod_bool Tryd.underlying4 g1
      obtain rfl := List.singleton_inj.1 e1
      have g2 : DataW.trod enc Tryd.prog w 0 spare held n' 4 [c2] = some y2 := by have g_ := hf 2 _ rfl; simpa [q4] using g_
      obtain ⟨s2, e2, rfl⟩ := DataW.trod_bool Tryd.underlying4 g2
      obtain rfl := List.singleton_inj.1 e2
      have g3 : DataW.trod enc Tryd.prog w 0 spare held n' 4 [c3] = some y3 := by have g_ := hf 3 _ rfl; simpa [q4] using g_
      obtain ⟨s3, e3, rfl⟩ := DataW.trod_bool Tryd.underlying4 g3
      obtain rfl := List.singleton_inj.1 e3
      have g4 : DataW.trod enc Tryd.prog w 0 spare held n' 4 [c4] = some y4 := by have g_ := hf 4 _ rfl; simpa [q4] using g_
      obtain ⟨s4, e4, rfl⟩ := DataW.trod_bool Tryd.underlying4 g4
      obtain rfl := List.singleton_inj.1 e4
      have g5 : DataW.trod enc Tryd.prog w 0 spare held n' 4 [c5] = some y5 := by have g_ := hf 5 _ rfl; simpa [q4] using g_
      obtain ⟨s5, e5, rfl⟩ := DataW.trod_bool Tryd.underlying4 g5
      obtain rfl := List.singleton_inj.1 e5
      have g6 : DataW.trod enc Tryd.prog w 0 spare held n' 3 [c6] = some y6 := by have g_ := hf 6 _ rfl; simpa [q3] using g_
      obtain ⟨s6, e6, rfl, b6⟩ := DataW.trod_int Tryd.underlying3 g6
      obtain rfl := List.singleton_inj.1 e6
      have g7 : DataW.trod enc Tryd.prog w 0 spare held n' 3 [c7] = some y7 := by have g_ := hf 7 _ rfl; simpa [q3] using g_
      obtain ⟨s7, e7, rfl, b7⟩ := DataW.trod_int Tryd.underlying3 g7
      obtain rfl := List.singleton_inj.1 e7
      have g8 : DataW.trod enc Tryd.prog w 0 spare held n' 3 [c8] = some y8 := by have g_ := hf 8 _ rfl; simpa [q3] using g_
      obtain ⟨s8, e8, rfl, b8⟩ := DataW.trod_int Tryd.underlying3 g8
      obtain rfl := List.singleton_inj.1 e8
      have g9 : DataW.trod enc Tryd.prog w 0 spare held n' 3 [c9] = some y9 := by have g_ := hf 9 _ rfl; simpa [q3] using g_
      obtain ⟨s9, e9, rfl, b9⟩ := DataW.trod_int Tryd.underlying3 g9
      obtain rfl := List.singleton_inj.1 e9
      refine ⟨⟨s0, s1, s2, s3, s4, s5, s6, s7, s8, s9⟩, rfl, ⟨b6, b7, b8, b9, trivial⟩, fun hw => trivial⟩
end Go.Proofs.YtahgiblifkchaaaDoor.P
