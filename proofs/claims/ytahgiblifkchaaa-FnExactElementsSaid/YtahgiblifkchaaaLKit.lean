/- Plain laws of our own (Kit): about numbers and lists alone; no condition beyond those written. -/
import Derived.Test.YtahgiblifkchaaaOwn
import Derived.Test.YtahgiblifkchaaaOwn
namespace Go.Proofs.Ytahgiblifkchaaa.P
open Go.RowKit Go.Proofs.YtahgiblifkchaaaW.PrintWords Go.Proofs.YtahgiblifkchaaaW.PrintLast Go.Proofs.YtahgiblifkchaaaW.PrintMore
set_option linter.unusedVariables false
set_option linter.unusedSimpArgs false
set_option maxHeartbeats 2000000
theorem wrap_id {x : Int} (h : -9223372036854775808 ≤ x) (h' : x ≤ 9223372036854775807) : wrap64 x = x := by unfold wrap64; omega
theorem size_extract (s : ByteArray) (a b : Nat) : (s.extract a b).size = min b s.size - a := ByteArray.size_extract
theorem bt_extract (s : ByteArray) (a b : Nat) (i : Int) (h0 : 0 ≤ i) (h1 : i < (b : Int) - a) (h2 : b ≤ s.size) : bt (s.extract a b) i = bt s (a + i) := by
  obtain ⟨n, rfl⟩ := Int.eq_ofNat_of_zero_le h0
  unfold bt
  have e : ((a : Int) + (n : Int)).toNat = a + n := by omega
  rw [e]
  have h3 : n < (s.extract a b).size := by rw [ByteArray.size_extract]; omega
  rw [dif_pos (show ((n : Int)).toNat < (s.extract a b).size by simpa using h3), dif_pos (show a + n < s.size by omega)]
  simp only [Int.toNat_natCast]
  rw [ByteArray.getElem_extract]

end Go.Proofs.Ytahgiblifkchaaa.P
