/-
  No cell of these rows narrows 'for every input' (looked for: loops, veiled, ifaces, maps, wideKeys, modest, calm, conditions, laid).
  DERIVED. THE GIVEN ROWS OF THIS SEAT. 15 by the template 'for every input the law returns true; each argument reads behind the call as it read before'; 0 by the template 'total and deterministic' (their statements: YtahgiblifkchaaaTotals.lean).
  GIVEN WITH THE SEED: the statements are not yours to turn. If you find one false, say at which input.
  Laid BY PROGRAM, IN A SANDBOX (cutbox-rows.mjs): the forced cells as the released guide's own fill.sh prints them over the translation 61215e510e6c22e7… (all of the seat's roots in one cut). By AI agents, Wed Nov 11 2026. No macro, syntax, notation, axiom, sorry.
-/
import Derived.Test.YtahgiblifkchaaaChecked
import GoSem.Claim
import GoSem.ClaimJoined
import GoSem.ClaimMapViews
import Derived.JoinedTies
import Derived.KernelRfl
namespace Go.Proofs.Ytahgiblifkchaaa
/- THE CELL 'sum', in the pinned program and in every row, IS THE sha256 OF THE DUMP (.gsa) THAT YtahgiblifkchaaaProg.lean LOADS. Nothing in Lean hashes anything: it is a label: what it is worth is what the hold of that sum in a sandbox is worth. -/
noncomputable def Try.pinned : Pinned := { name := "ytahgiblifkchaaa", sum := "61215e510e6c22e760dead8b4d8bcdc6da340378df7d9458ed9971719aea08c0", checked := Try.checked }
namespace Rows
def none {H : Type} : Left H := { results := [], args := [] }

/-- 'laws.FnExactDirsOk': WHATEVER THE INPUT: true; the input reads as it did. -/
def fnExactDirsOkSpec : ChangeSpec := { name := "fnExactDirsOk", fn := fun _ => fun
  | [d] => { results := [.lit (.bool true)], args := [d] }
  | _ => none }
def fnExactDirsOkRow : OpenClaim := { program := "ytahgiblifkchaaa", sum := "61215e510e6c22e760dead8b4d8bcdc6da340378df7d9458ed9971719aea08c0", func := "loop.example/g00651/laws.FnExactDirsOk", spec := "fnExactDirsOk", apart := false }
def FnExactDirsOkSaid : Prop := fnExactDirsOkRow.holds Try.pinned (OpenSpec.ofChange fnExactDirsOkSpec)

/-- ITS FALSE NEIGHBOUR: 'it returns false'. Refute it at one input. -/
def fnExactDirsOkWrong : ChangeSpec := { name := "fnExactDirsOk", fn := fun _ => fun
  | [d] => { results := [.lit (.bool false)], args := [d] }
  | _ => none }
def FnExactDirsOkWrongFalsely : Prop := fnExactDirsOkRow.holds Try.pinned (OpenSpec.ofChange fnExactDirsOkWrong)

/-- 'laws.FnExactDelta': WHATEVER THE INPUT: true; the input reads as it did. -/
def fnExactDeltaSpec : ChangeSpec := { name := "fnExactDelta", fn := fun _ => fun
  | [d] => { results := [.lit (.bool true)], args := [d] }
  | _ => none }
def fnExactDeltaRow : OpenClaim := { program := "ytahgiblifkchaaa", sum := "61215e510e6c22e760dead8b4d8bcdc6da340378df7d9458ed9971719aea08c0", func := "loop.example/g00651/laws.FnExactDelta", spec := "fnExactDelta", unfollowed := true, recurses := true, apart := false }
def FnExactDeltaSaid : Prop := fnExactDeltaRow.holds Try.pinned (OpenSpec.ofChange fnExactDeltaSpec)

/-- ITS FALSE NEIGHBOUR: 'it returns false'. Refute it at one input. -/
def fnExactDeltaWrong : ChangeSpec := { name := "fnExactDelta", fn := fun _ => fun
  | [d] => { results := [.lit (.bool false)], args := [d] }
  | _ => none }
def FnExactDeltaWrongFalsely : Prop := fnExactDeltaRow.holds Try.pinned (OpenSpec.ofChange fnExactDeltaWrong)

/-- 'laws.FnExactTagOk': WHATEVER THE INPUT: true; the input reads as it did. -/
def fnExactTagOkSpec : ChangeSpec := { name := "fnExactTagOk", fn := fun _ => fun
  | [d] => { results := [.lit (.bool true)], args := [d] }
  | _ => none }
def fnExactTagOkRow : OpenClaim := { program := "ytahgiblifkchaaa", sum := "61215e510e6c22e760dead8b4d8bcdc6da340378df7d9458ed9971719aea08c0", func := "loop.example/g00651/laws.FnExactTagOk", spec := "fnExactTagOk", unfollowed := true, recurses := true, apart := false }
def FnExactTagOkSaid : Prop := fnExactTagOkRow.holds Try.pinned (OpenSpec.ofChange fnExactTagOkSpec)

/-- ITS FALSE NEIGHBOUR: 'it returns false'. Refute it at one input. -/
def fnExactTagOkWrong : ChangeSpec := { name := "fnExactTagOk", fn := fun _ => fun
  | [d] => { results := [.lit (.bool false)], args := [d] }
  | _ => none }
def FnExactTagOkWrongFalsely : Prop := fnExactTagOkRow.holds Try.pinned (OpenSpec.ofChange fnExactTagOkWrong)

/-- 'laws.FnExactWeakSame': WHATEVER THE INPUT: true; the input reads as it did. -/
def fnExactWeakSameSpec : ChangeSpec := { name := "fnExactWeakSame", fn := fun _ => fun
  | [d1, d2] => { results := [.lit (.bool true)], args := [d1, d2] }
  | _ => none }
def fnExactWeakSameRow : OpenClaim := { program := "ytahgiblifkchaaa", sum := "61215e510e6c22e760dead8b4d8bcdc6da340378df7d9458ed9971719aea08c0", func := "loop.example/g00651/laws.FnExactWeakSame", spec := "fnExactWeakSame", unfollowed := true, recurses := true, apart := false }
def FnExactWeakSameSaid : Prop := fnExactWeakSameRow.holds Try.pinned (OpenSpec.ofChange fnExactWeakSameSpec)

/-- ITS FALSE NEIGHBOUR: 'it returns false'. Refute it at one input. -/
def fnExactWeakSameWrong : ChangeSpec := { name := "fnExactWeakSame", fn := fun _ => fun
  | [d1, d2] => { results := [.lit (.bool false)], args := [d1, d2] }
  | _ => none }
def FnExactWeakSameWrongFalsely : Prop := fnExactWeakSameRow.holds Try.pinned (OpenSpec.ofChange fnExactWeakSameWrong)

/-- 'laws.FnExactStoreNew': WHATEVER THE INPUT: true; the input reads as it did. -/
def fnExactStoreNewSpec : ChangeSpec := { name := "fnExactStoreNew", fn := fun _ => fun
  | [d] => { results := [.lit (.bool true)], args := [d] }
  | _ => none }
def fnExactStoreNewRow : OpenClaim := { program := "ytahgiblifkchaaa", sum := "61215e510e6c22e760dead8b4d8bcdc6da340378df7d9458ed9971719aea08c0", func := "loop.example/g00651/laws.FnExactStoreNew", spec := "fnExactStoreNew", apart := false }
def FnExactStoreNewSaid : Prop := fnExactStoreNewRow.holds Try.pinned (OpenSpec.ofChange fnExactStoreNewSpec)

/-- ITS FALSE NEIGHBOUR: 'it returns false'. Refute it at one input. -/
def fnExactStoreNewWrong : ChangeSpec := { name := "fnExactStoreNew", fn := fun _ => fun
  | [d] => { results := [.lit (.bool false)], args := [d] }
  | _ => none }
def FnExactStoreNewWrongFalsely : Prop := fnExactStoreNewRow.holds Try.pinned (OpenSpec.ofChange fnExactStoreNewWrong)

/-- 'laws.FnExactElements': WHATEVER THE INPUT: true; the input reads as it did. -/
def fnExactElementsSpec : ChangeSpec := { name := "fnExactElements", fn := fun _ => fun
  | [d] => { results := [.lit (.bool true)], args := [d] }
  | _ => none }
def fnExactElementsRow : OpenClaim := { program := "ytahgiblifkchaaa", sum := "61215e510e6c22e760dead8b4d8bcdc6da340378df7d9458ed9971719aea08c0", func := "loop.example/g00651/laws.FnExactElements", spec := "fnExactElements", unfollowed := true, recurses := true, apart := false }
def FnExactElementsSaid : Prop := fnExactElementsRow.holds Try.pinned (OpenSpec.ofChange fnExactElementsSpec)

/-- ITS FALSE NEIGHBOUR: 'it returns false'. Refute it at one input. -/
def fnExactElementsWrong : ChangeSpec := { name := "fnExactElements", fn := fun _ => fun
  | [d] => { results := [.lit (.bool false)], args := [d] }
  | _ => none }
def FnExactElementsWrongFalsely : Prop := fnExactElementsRow.holds Try.pinned (OpenSpec.ofChange fnExactElementsWrong)

/-- 'laws.FnExactCanned': WHATEVER THE INPUT: true; the input reads as it did. -/
def fnExactCannedSpec : ChangeSpec := { name := "fnExactCanned", fn := fun _ => fun
  | [d1, d2] => { results := [.lit (.bool true)], args := [d1, d2] }
  | _ => none }
def fnExactCannedRow : OpenClaim := { program := "ytahgiblifkchaaa", sum := "61215e510e6c22e760dead8b4d8bcdc6da340378df7d9458ed9971719aea08c0", func := "loop.example/g00651/laws.FnExactCanned", spec := "fnExactCanned", apart := false }
def FnExactCannedSaid : Prop := fnExactCannedRow.holds Try.pinned (OpenSpec.ofChange fnExactCannedSpec)

/-- ITS FALSE NEIGHBOUR: 'it returns false'. Refute it at one input. -/
def fnExactCannedWrong : ChangeSpec := { name := "fnExactCanned", fn := fun _ => fun
  | [d1, d2] => { results := [.lit (.bool false)], args := [d1, d2] }
  | _ => none }
def FnExactCannedWrongFalsely : Prop := fnExactCannedRow.holds Try.pinned (OpenSpec.ofChange fnExactCannedWrong)

/-- 'laws.FnExactWithout': WHATEVER THE INPUT: true; the input reads as it did. -/
def fnExactWithoutSpec : ChangeSpec := { name := "fnExactWithout", fn := fun _ => fun
  | [d1, d2] => { results := [.lit (.bool true)], args := [d1, d2] }
  | _ => none }
def fnExactWithoutRow : OpenClaim := { program := "ytahgiblifkchaaa", sum := "61215e510e6c22e760dead8b4d8bcdc6da340378df7d9458ed9971719aea08c0", func := "loop.example/g00651/laws.FnExactWithout", spec := "fnExactWithout", inPlace := ["internal/bytealg.IndexByteString"], unfollowed := true, recurses := true, apart := false }
def FnExactWithoutSaid : Prop := fnExactWithoutRow.holds Try.pinned (OpenSpec.ofChange fnExactWithoutSpec)

/-- ITS FALSE NEIGHBOUR: 'it returns false'. Refute it at one input. -/
def fnExactWithoutWrong : ChangeSpec := { name := "fnExactWithout", fn := fun _ => fun
  | [d1, d2] => { results := [.lit (.bool false)], args := [d1, d2] }
  | _ => none }
def FnExactWithoutWrongFalsely : Prop := fnExactWithoutRow.holds Try.pinned (OpenSpec.ofChange fnExactWithoutWrong)

/-- 'laws.FnExactValues': WHATEVER THE INPUT: true; the input reads as it did. -/
def fnExactValuesSpec : ChangeSpec := { name := "fnExactValues", fn := fun _ => fun
  | [d1, d2] => { results := [.lit (.bool true)], args := [d1, d2] }
  | _ => none }
def fnExactValuesRow : OpenClaim := { program := "ytahgiblifkchaaa", sum := "61215e510e6c22e760dead8b4d8bcdc6da340378df7d9458ed9971719aea08c0", func := "loop.example/g00651/laws.FnExactValues", spec := "fnExactValues", inPlace := ["internal/bytealg.IndexByteString"], unfollowed := true, recurses := true, apart := false }
def FnExactValuesSaid : Prop := fnExactValuesRow.holds Try.pinned (OpenSpec.ofChange fnExactValuesSpec)

/-- ITS FALSE NEIGHBOUR: 'it returns false'. Refute it at one input. -/
def fnExactValuesWrong : ChangeSpec := { name := "fnExactValues", fn := fun _ => fun
  | [d1, d2] => { results := [.lit (.bool false)], args := [d1, d2] }
  | _ => none }
def FnExactValuesWrongFalsely : Prop := fnExactValuesRow.holds Try.pinned (OpenSpec.ofChange fnExactValuesWrong)

/-- 'laws.FnExactArchNew': WHATEVER THE INPUT: true; the input reads as it did. -/
def fnExactArchNewSpec : ChangeSpec := { name := "fnExactArchNew", fn := fun _ => fun
  | [d1, d2, d3] => { results := [.lit (.bool true)], args := [d1, d2, d3] }
  | _ => none }
def fnExactArchNewRow : OpenClaim := { program := "ytahgiblifkchaaa", sum := "61215e510e6c22e760dead8b4d8bcdc6da340378df7d9458ed9971719aea08c0", func := "loop.example/g00651/laws.FnExactArchNew", spec := "fnExactArchNew", apart := false }
def FnExactArchNewSaid : Prop := fnExactArchNewRow.holds Try.pinned (OpenSpec.ofChange fnExactArchNewSpec)

/-- ITS FALSE NEIGHBOUR: 'it returns false'. Refute it at one input. -/
def fnExactArchNewWrong : ChangeSpec := { name := "fnExactArchNew", fn := fun _ => fun
  | [d1, d2, d3] => { results := [.lit (.bool false)], args := [d1, d2, d3] }
  | _ => none }
def FnExactArchNewWrongFalsely : Prop := fnExactArchNewRow.holds Try.pinned (OpenSpec.ofChange fnExactArchNewWrong)

/-- 'laws.FnExactWith': WHATEVER THE INPUT: true; the input reads as it did. -/
def fnExactWithSpec : ChangeSpec := { name := "fnExactWith", fn := fun _ => fun
  | [d1, d2] => { results := [.lit (.bool true)], args := [d1, d2] }
  | _ => none }
def fnExactWithRow : OpenClaim := { program := "ytahgiblifkchaaa", sum := "61215e510e6c22e760dead8b4d8bcdc6da340378df7d9458ed9971719aea08c0", func := "loop.example/g00651/laws.FnExactWith", spec := "fnExactWith", inPlace := ["internal/bytealg.IndexByteString"], unfollowed := true, recurses := true, apart := false }
def FnExactWithSaid : Prop := fnExactWithRow.holds Try.pinned (OpenSpec.ofChange fnExactWithSpec)

/-- ITS FALSE NEIGHBOUR: 'it returns false'. Refute it at one input. -/
def fnExactWithWrong : ChangeSpec := { name := "fnExactWith", fn := fun _ => fun
  | [d1, d2] => { results := [.lit (.bool false)], args := [d1, d2] }
  | _ => none }
def FnExactWithWrongFalsely : Prop := fnExactWithRow.holds Try.pinned (OpenSpec.ofChange fnExactWithWrong)

/-- 'laws.FnExactWords': WHATEVER THE INPUT: true; the input reads as it did. -/
def fnExactWordsSpec : ChangeSpec := { name := "fnExactWords", fn := fun _ => fun
  | [d1, d2] => { results := [.lit (.bool true)], args := [d1, d2] }
  | _ => none }
def fnExactWordsRow : OpenClaim := { program := "ytahgiblifkchaaa", sum := "61215e510e6c22e760dead8b4d8bcdc6da340378df7d9458ed9971719aea08c0", func := "loop.example/g00651/laws.FnExactWords", spec := "fnExactWords", inPlace := ["internal/bytealg.IndexByteString", "internal/abi.NoEscape", "internal/bytealg.MakeNoZero"], unfollowed := true, recurses := true, apart := false }
def FnExactWordsSaid : Prop := fnExactWordsRow.holds Try.pinned (OpenSpec.ofChange fnExactWordsSpec)

/-- ITS FALSE NEIGHBOUR: 'it returns false'. Refute it at one input. -/
def fnExactWordsWrong : ChangeSpec := { name := "fnExactWords", fn := fun _ => fun
  | [d1, d2] => { results := [.lit (.bool false)], args := [d1, d2] }
  | _ => none }
def FnExactWordsWrongFalsely : Prop := fnExactWordsRow.holds Try.pinned (OpenSpec.ofChange fnExactWordsWrong)

/-- 'laws.FnExactReadDirs': WHATEVER THE INPUT: true; the input reads as it did. -/
def fnExactReadDirsSpec : ChangeSpec := { name := "fnExactReadDirs", fn := fun _ => fun
  | [d] => { results := [.lit (.bool true)], args := [d] }
  | _ => none }
def fnExactReadDirsRow : OpenClaim := { program := "ytahgiblifkchaaa", sum := "61215e510e6c22e760dead8b4d8bcdc6da340378df7d9458ed9971719aea08c0", func := "loop.example/g00651/laws.FnExactReadDirs", spec := "fnExactReadDirs", inPlace := ["internal/bytealg.IndexByteString", "internal/abi.NoEscape", "internal/bytealg.MakeNoZero", "internal/bytealg.IndexString"], unfollowed := true, recurses := true, named := ["internal/bytealg.MaxLen"], apart := false }
def FnExactReadDirsSaid : Prop := fnExactReadDirsRow.holds Try.pinned (OpenSpec.ofChange fnExactReadDirsSpec)

/-- ITS FALSE NEIGHBOUR: 'it returns false'. Refute it at one input. -/
def fnExactReadDirsWrong : ChangeSpec := { name := "fnExactReadDirs", fn := fun _ => fun
  | [d] => { results := [.lit (.bool false)], args := [d] }
  | _ => none }
def FnExactReadDirsWrongFalsely : Prop := fnExactReadDirsRow.holds Try.pinned (OpenSpec.ofChange fnExactReadDirsWrong)

/-- 'laws.FnExactHopNames': WHATEVER THE INPUT: true; the input reads as it did. -/
def fnExactHopNamesSpec : ChangeSpec := { name := "fnExactHopNames", fn := fun _ => fun
  | [d] => { results := [.lit (.bool true)], args := [d] }
  | _ => none }
def fnExactHopNamesRow : OpenClaim := { program := "ytahgiblifkchaaa", sum := "61215e510e6c22e760dead8b4d8bcdc6da340378df7d9458ed9971719aea08c0", func := "loop.example/g00651/laws.FnExactHopNames", spec := "fnExactHopNames", inPlace := ["internal/bytealg.IndexByteString", "internal/abi.NoEscape", "internal/bytealg.MakeNoZero"], unfollowed := true, recurses := true, apart := false }
def FnExactHopNamesSaid : Prop := fnExactHopNamesRow.holds Try.pinned (OpenSpec.ofChange fnExactHopNamesSpec)

/-- ITS FALSE NEIGHBOUR: 'it returns false'. Refute it at one input. -/
def fnExactHopNamesWrong : ChangeSpec := { name := "fnExactHopNames", fn := fun _ => fun
  | [d] => { results := [.lit (.bool false)], args := [d] }
  | _ => none }
def FnExactHopNamesWrongFalsely : Prop := fnExactHopNamesRow.holds Try.pinned (OpenSpec.ofChange fnExactHopNamesWrong)

/-- 'laws.FnExactEndToEnd': WHATEVER THE INPUT: true; the input reads as it did. -/
def fnExactEndToEndSpec : ChangeSpec := { name := "fnExactEndToEnd", fn := fun _ => fun
  | [d] => { results := [.lit (.bool true)], args := [d] }
  | _ => none }
def fnExactEndToEndRow : OpenClaim := { program := "ytahgiblifkchaaa", sum := "61215e510e6c22e760dead8b4d8bcdc6da340378df7d9458ed9971719aea08c0", func := "loop.example/g00651/laws.FnExactEndToEnd", spec := "fnExactEndToEnd", inPlace := ["internal/bytealg.IndexByteString", "internal/abi.NoEscape", "internal/bytealg.MakeNoZero"], unfollowed := true, recurses := true, apart := false }
def FnExactEndToEndSaid : Prop := fnExactEndToEndRow.holds Try.pinned (OpenSpec.ofChange fnExactEndToEndSpec)

/-- ITS FALSE NEIGHBOUR: 'it returns false'. Refute it at one input. -/
def fnExactEndToEndWrong : ChangeSpec := { name := "fnExactEndToEnd", fn := fun _ => fun
  | [d] => { results := [.lit (.bool false)], args := [d] }
  | _ => none }
def FnExactEndToEndWrongFalsely : Prop := fnExactEndToEndRow.holds Try.pinned (OpenSpec.ofChange fnExactEndToEndWrong)

/- THE SECOND FORM. 'bulk': how many values and letters a reading holds, each counted each time it is reached (what is shared counts as often as it is met; a slice's spare places count too). A statement '..UptoSaid' is the law's where the arguments, and the package variables that the reading takes, are together of bulk at most 1048576: NARROWER than '..Said'. Prove '..Said' where nothing that the law and all that it calls make is longer than what came in: it says more and counts as full. Else prove '..UptoSaid'. A law counts once. -/
mutual
def uptoBulk {H : Type} : DataW H → Nat
  | .lit (.string bytes) => bytes.length + 1
  | .lit _ => 1
  | .nil => 1
  | .ptr d => uptoBulk d + 1
  | .slice elems spare => uptoBulkAll elems + uptoBulkAll spare + 1
  | .agg parts => uptoBulkAll parts + 1
  | .iface _ d => uptoBulk d + 1
  | .map entries => uptoBulkEntries entries + 1
  | .held _ => 1
def uptoBulkAll {H : Type} : List (DataW H) → Nat
  | [] => 0
  | d :: r => uptoBulk d + uptoBulkAll r
def uptoBulkEntries {H : Type} : List (Lit × DataW H) → Nat
  | [] => 0
  | x :: r => uptoBulkEntry x + uptoBulkEntries r
def uptoBulkEntry {H : Type} : Lit × DataW H → Nat
  | (.string bytes, d) => bytes.length + uptoBulk d + 1
  | (_, d) => uptoBulk d + 1
 end
def uptoSmall : (H : Type) → List (DataW H) → Bool := fun _ ds => decide (uptoBulkAll ds ≤ 1048576)
def OpenSpec.upto (s : _root_.Go.ChangeSpec) : _root_.Go.OpenSpec := { _root_.Go.OpenSpec.ofChange s with cond := some uptoSmall }

/-- 'laws.FnExactDirsOk', WHERE WHAT IT READS IS OF BULK AT MOST 1048576: true; the input reads as it did. -/
def fnExactDirsOkUptoRow : OpenClaim := { program := "ytahgiblifkchaaa", sum := "61215e510e6c22e760dead8b4d8bcdc6da340378df7d9458ed9971719aea08c0", func := "loop.example/g00651/laws.FnExactDirsOk", spec := "fnExactDirsOk", apart := false, narrowed := true }
def FnExactDirsOkUptoSaid : Prop := fnExactDirsOkUptoRow.holds Try.pinned (OpenSpec.upto fnExactDirsOkSpec)

/-- 'laws.FnExactDelta', WHERE WHAT IT READS IS OF BULK AT MOST 1048576: true; the input reads as it did. -/
def fnExactDeltaUptoRow : OpenClaim := { program := "ytahgiblifkchaaa", sum := "61215e510e6c22e760dead8b4d8bcdc6da340378df7d9458ed9971719aea08c0", func := "loop.example/g00651/laws.FnExactDelta", spec := "fnExactDelta", unfollowed := true, recurses := true, apart := false, narrowed := true }
def FnExactDeltaUptoSaid : Prop := fnExactDeltaUptoRow.holds Try.pinned (OpenSpec.upto fnExactDeltaSpec)

/-- 'laws.FnExactTagOk', WHERE WHAT IT READS IS OF BULK AT MOST 1048576: true; the input reads as it did. -/
def fnExactTagOkUptoRow : OpenClaim := { program := "ytahgiblifkchaaa", sum := "61215e510e6c22e760dead8b4d8bcdc6da340378df7d9458ed9971719aea08c0", func := "loop.example/g00651/laws.FnExactTagOk", spec := "fnExactTagOk", unfollowed := true, recurses := true, apart := false, narrowed := true }
def FnExactTagOkUptoSaid : Prop := fnExactTagOkUptoRow.holds Try.pinned (OpenSpec.upto fnExactTagOkSpec)

/-- 'laws.FnExactWeakSame', WHERE WHAT IT READS IS OF BULK AT MOST 1048576: true; the input reads as it did. -/
def fnExactWeakSameUptoRow : OpenClaim := { program := "ytahgiblifkchaaa", sum := "61215e510e6c22e760dead8b4d8bcdc6da340378df7d9458ed9971719aea08c0", func := "loop.example/g00651/laws.FnExactWeakSame", spec := "fnExactWeakSame", unfollowed := true, recurses := true, apart := false, narrowed := true }
def FnExactWeakSameUptoSaid : Prop := fnExactWeakSameUptoRow.holds Try.pinned (OpenSpec.upto fnExactWeakSameSpec)

/-- 'laws.FnExactStoreNew', WHERE WHAT IT READS IS OF BULK AT MOST 1048576: true; the input reads as it did. -/
def fnExactStoreNewUptoRow : OpenClaim := { program := "ytahgiblifkchaaa", sum := "61215e510e6c22e760dead8b4d8bcdc6da340378df7d9458ed9971719aea08c0", func := "loop.example/g00651/laws.FnExactStoreNew", spec := "fnExactStoreNew", apart := false, narrowed := true }
def FnExactStoreNewUptoSaid : Prop := fnExactStoreNewUptoRow.holds Try.pinned (OpenSpec.upto fnExactStoreNewSpec)

/-- 'laws.FnExactElements', WHERE WHAT IT READS IS OF BULK AT MOST 1048576: true; the input reads as it did. -/
def fnExactElementsUptoRow : OpenClaim := { program := "ytahgiblifkchaaa", sum := "61215e510e6c22e760dead8b4d8bcdc6da340378df7d9458ed9971719aea08c0", func := "loop.example/g00651/laws.FnExactElements", spec := "fnExactElements", unfollowed := true, recurses := true, apart := false, narrowed := true }
def FnExactElementsUptoSaid : Prop := fnExactElementsUptoRow.holds Try.pinned (OpenSpec.upto fnExactElementsSpec)

/-- 'laws.FnExactCanned', WHERE WHAT IT READS IS OF BULK AT MOST 1048576: true; the input reads as it did. -/
def fnExactCannedUptoRow : OpenClaim := { program := "ytahgiblifkchaaa", sum := "61215e510e6c22e760dead8b4d8bcdc6da340378df7d9458ed9971719aea08c0", func := "loop.example/g00651/laws.FnExactCanned", spec := "fnExactCanned", apart := false, narrowed := true }
def FnExactCannedUptoSaid : Prop := fnExactCannedUptoRow.holds Try.pinned (OpenSpec.upto fnExactCannedSpec)

/-- 'laws.FnExactWithout', WHERE WHAT IT READS IS OF BULK AT MOST 1048576: true; the input reads as it did. -/
def fnExactWithoutUptoRow : OpenClaim := { program := "ytahgiblifkchaaa", sum := "61215e510e6c22e760dead8b4d8bcdc6da340378df7d9458ed9971719aea08c0", func := "loop.example/g00651/laws.FnExactWithout", spec := "fnExactWithout", inPlace := ["internal/bytealg.IndexByteString"], unfollowed := true, recurses := true, apart := false, narrowed := true }
def FnExactWithoutUptoSaid : Prop := fnExactWithoutUptoRow.holds Try.pinned (OpenSpec.upto fnExactWithoutSpec)

/-- 'laws.FnExactValues', WHERE WHAT IT READS IS OF BULK AT MOST 1048576: true; the input reads as it did. -/
def fnExactValuesUptoRow : OpenClaim := { program := "ytahgiblifkchaaa", sum := "61215e510e6c22e760dead8b4d8bcdc6da340378df7d9458ed9971719aea08c0", func := "loop.example/g00651/laws.FnExactValues", spec := "fnExactValues", inPlace := ["internal/bytealg.IndexByteString"], unfollowed := true, recurses := true, apart := false, narrowed := true }
def FnExactValuesUptoSaid : Prop := fnExactValuesUptoRow.holds Try.pinned (OpenSpec.upto fnExactValuesSpec)

/-- 'laws.FnExactArchNew', WHERE WHAT IT READS IS OF BULK AT MOST 1048576: true; the input reads as it did. -/
def fnExactArchNewUptoRow : OpenClaim := { program := "ytahgiblifkchaaa", sum := "61215e510e6c22e760dead8b4d8bcdc6da340378df7d9458ed9971719aea08c0", func := "loop.example/g00651/laws.FnExactArchNew", spec := "fnExactArchNew", apart := false, narrowed := true }
def FnExactArchNewUptoSaid : Prop := fnExactArchNewUptoRow.holds Try.pinned (OpenSpec.upto fnExactArchNewSpec)

/-- 'laws.FnExactWith', WHERE WHAT IT READS IS OF BULK AT MOST 1048576: true; the input reads as it did. -/
def fnExactWithUptoRow : OpenClaim := { program := "ytahgiblifkchaaa", sum := "61215e510e6c22e760dead8b4d8bcdc6da340378df7d9458ed9971719aea08c0", func := "loop.example/g00651/laws.FnExactWith", spec := "fnExactWith", inPlace := ["internal/bytealg.IndexByteString"], unfollowed := true, recurses := true, apart := false, narrowed := true }
def FnExactWithUptoSaid : Prop := fnExactWithUptoRow.holds Try.pinned (OpenSpec.upto fnExactWithSpec)

/-- 'laws.FnExactWords', WHERE WHAT IT READS IS OF BULK AT MOST 1048576: true; the input reads as it did. -/
def fnExactWordsUptoRow : OpenClaim := { program := "ytahgiblifkchaaa", sum := "61215e510e6c22e760dead8b4d8bcdc6da340378df7d9458ed9971719aea08c0", func := "loop.example/g00651/laws.FnExactWords", spec := "fnExactWords", inPlace := ["internal/bytealg.IndexByteString", "internal/abi.NoEscape", "internal/bytealg.MakeNoZero"], unfollowed := true, recurses := true, apart := false, narrowed := true }
def FnExactWordsUptoSaid : Prop := fnExactWordsUptoRow.holds Try.pinned (OpenSpec.upto fnExactWordsSpec)

/-- 'laws.FnExactReadDirs', WHERE WHAT IT READS IS OF BULK AT MOST 1048576: true; the input reads as it did. -/
def fnExactReadDirsUptoRow : OpenClaim := { program := "ytahgiblifkchaaa", sum := "61215e510e6c22e760dead8b4d8bcdc6da340378df7d9458ed9971719aea08c0", func := "loop.example/g00651/laws.FnExactReadDirs", spec := "fnExactReadDirs", inPlace := ["internal/bytealg.IndexByteString", "internal/abi.NoEscape", "internal/bytealg.MakeNoZero", "internal/bytealg.IndexString"], unfollowed := true, recurses := true, named := ["internal/bytealg.MaxLen"], apart := false, narrowed := true }
def FnExactReadDirsUptoSaid : Prop := fnExactReadDirsUptoRow.holds Try.pinned (OpenSpec.upto fnExactReadDirsSpec)

/-- 'laws.FnExactHopNames', WHERE WHAT IT READS IS OF BULK AT MOST 1048576: true; the input reads as it did. -/
def fnExactHopNamesUptoRow : OpenClaim := { program := "ytahgiblifkchaaa", sum := "61215e510e6c22e760dead8b4d8bcdc6da340378df7d9458ed9971719aea08c0", func := "loop.example/g00651/laws.FnExactHopNames", spec := "fnExactHopNames", inPlace := ["internal/bytealg.IndexByteString", "internal/abi.NoEscape", "internal/bytealg.MakeNoZero"], unfollowed := true, recurses := true, apart := false, narrowed := true }
def FnExactHopNamesUptoSaid : Prop := fnExactHopNamesUptoRow.holds Try.pinned (OpenSpec.upto fnExactHopNamesSpec)

/-- 'laws.FnExactEndToEnd', WHERE WHAT IT READS IS OF BULK AT MOST 1048576: true; the input reads as it did. -/
def fnExactEndToEndUptoRow : OpenClaim := { program := "ytahgiblifkchaaa", sum := "61215e510e6c22e760dead8b4d8bcdc6da340378df7d9458ed9971719aea08c0", func := "loop.example/g00651/laws.FnExactEndToEnd", spec := "fnExactEndToEnd", inPlace := ["internal/bytealg.IndexByteString", "internal/abi.NoEscape", "internal/bytealg.MakeNoZero"], unfollowed := true, recurses := true, apart := false, narrowed := true }
def FnExactEndToEndUptoSaid : Prop := fnExactEndToEndUptoRow.holds Try.pinned (OpenSpec.upto fnExactEndToEndSpec)

end Rows
end Go.Proofs.Ytahgiblifkchaaa
