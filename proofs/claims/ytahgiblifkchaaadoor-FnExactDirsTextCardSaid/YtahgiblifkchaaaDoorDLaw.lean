/- The law FnExactDirsText, walked: it answers true where both texts are the same. -/
import Derived.Test.YtahgiblifkchaaaDoorDText
import Derived.Test.YtahgiblifkchaaaDoorPxspec12b
import Derived.Test.YtahgiblifkchaaaDoorPxauxa
namespace Go.Proofs.YtahgiblifkchaaaDoor.P
open Go.RowKit Go.Proofs.YtahgiblifkchaaaDoorW.PrintWords Go.Proofs.YtahgiblifkchaaaDoorW.PrintLast Go.Proofs.YtahgiblifkchaaaDoorW.PrintMore
attribute [local go_sem] max2_int min2_int max_two min_two max_three min_three max_four min_four
set_option linter.unusedVariables false
set_option linter.unusedSimpArgs false
set_option maxHeartbeats 8000000 in
set_option maxRecDepth 100000 in
theorem dirsLaw_calls (k : Nat) (b0 b1 b2 b3 b4 b5 : Bool) (n6 n7 n8 n9 : Int) (t : ByteArray) (w : World) (ht : Tab10 w) (hs : spec_DirsText.f k b0 b1 b2 b3 b4 b5 n6 n7 n8 n9 = some t) (hi : impl_DirsText.f b0 b1 b2 b3 b4 b5 n6 n7 n8 n9 = some t) :
    Calls Tryd.prog 3 #[.agg #[.bool b0, .bool b1, .bool b2, .bool b3, .bool b4, .bool b5, .int .i64 n6, .int .i64 n7, .int .i64 n8, .int .i64 n9]] w fun e w' => e = .returned (.bool true) ∧ Below w.heap.size w w' := by
  have hu25 := Tryd.underlying25
  have hu23 := Tryd.underlying23
  have HT := Aside0.mk ht
  have HS := Aside0.mk hs
  have HI := Aside0.mk hi
  clear ht hs hi
  go_enter Tryd.func3, Tryd.ntmps3
  have hd0 := blk_new w (Obj.cells (dirBox b0 b1 b2 b3 b4 b5 n6 n7 n8 n9) 23)
  go_wp2_with fail
  refine (laws_toDirs.calls b0 b1 b2 b3 b4 b5 n6 n7 n8 n9 _ _ _ _ _ _ _ _ _ _ _ rfl).mono ?_
  rintro e w2 ⟨rfl, hb⟩
  dsimp only
  have B2 : Below w.heap.size w w2 := below_step (below_alloc (Below.refl _ _) _) hb
  have D2 : w2.heap[w.heap.size]? = some (.cells (dirBox b0 b1 b2 b3 b4 b5 n6 n7 n8 n9) 23 (0, 0)) := blk_below hd0 hb
  have B2 := Aside0.mk B2
  have D2 := Aside0.mk D2
  clear hb hd0
  go_wp2_with fail
  refine (spec_DirsText.calls k b0 b1 b2 b3 b4 b5 n6 n7 n8 n9 t _ HS.out).mono ?_
  rintro e w3 ⟨rfl, hb⟩
  dsimp only
  have B3 := Aside0.mk (below_step B2.out hb)
  have D3 := Aside0.mk (blk_below D2.out hb)
  clear hb B2 D2
  have hc0 : w3.cell? ⟨w.heap.size, 0, none⟩ = some (.bool b0) := blk_cell D3.out 0
  have hc1 : w3.cell? ⟨w.heap.size, 1, none⟩ = some (.bool b1) := blk_cell D3.out 1
  have hc2 : w3.cell? ⟨w.heap.size, 2, none⟩ = some (.bool b2) := blk_cell D3.out 2
  have hc3 : w3.cell? ⟨w.heap.size, 3, none⟩ = some (.bool b3) := blk_cell D3.out 3
  have hc4 : w3.cell? ⟨w.heap.size, 4, none⟩ = some (.bool b4) := blk_cell D3.out 4
  have hc5 : w3.cell? ⟨w.heap.size, 5, none⟩ = some (.bool b5) := blk_cell D3.out 5
  have hc6 : w3.cell? ⟨w.heap.size, 6, none⟩ = some (.int .i64 n6) := blk_cell D3.out 6
  have hc7 : w3.cell? ⟨w.heap.size, 7, none⟩ = some (.int .i64 n7) := blk_cell D3.out 7
  have hc8 : w3.cell? ⟨w.heap.size, 8, none⟩ = some (.int .i64 n8) := blk_cell D3.out 8
  have hc9 : w3.cell? ⟨w.heap.size, 9, none⟩ = some (.int .i64 n9) := blk_cell D3.out 9
  go_wp2_with fail
  refine (laws_toDirs.calls b0 b1 b2 b3 b4 b5 n6 n7 n8 n9 _ _ _ _ _ _ _ _ _ _ _ rfl).mono ?_
  rintro e w4 ⟨rfl, hb⟩
  dsimp only
  have B4 := Aside0.mk (below_step B3.out hb)
  clear hb B3 D3 hc0 hc1 hc2 hc3 hc4 hc5 hc6 hc7 hc8 hc9
  go_wp2_with fail
  refine (impl_DirsText.calls b0 b1 b2 b3 b4 b5 n6 n7 n8 n9 t _ (tab_below HT.out B4.out (tab_lt HT.out)) HI.out).mono ?_
  rintro e w5 ⟨rfl, hb⟩
  dsimp only
  have B5 := Aside0.mk (below_step B4.out hb)
  clear hb B4
  have hne : (t.toList != t.toList) = false := bne_self_eq_false _
  go_wp2
  go_ret
  exact ⟨rfl, B5.out⟩
end Go.Proofs.YtahgiblifkchaaaDoor.P
