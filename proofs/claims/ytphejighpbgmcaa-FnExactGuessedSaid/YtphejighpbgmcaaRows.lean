/-
  No cell of these rows narrows 'for every input' (looked for: loops, veiled, ifaces, maps, wideKeys, modest, calm, conditions, laid).
  DERIVED. THE GIVEN ROWS OF THIS SEAT. 6 by the template 'for every input the law returns true; each argument reads behind the call as it read before'; 0 by the template 'total and deterministic' (their statements: YtphejighpbgmcaaTotals.lean).
  GIVEN WITH THE SEED: the statements are not yours to turn. If you find one false, say at which input.
  Laid BY PROGRAM, IN A SANDBOX (cutbox-rows.mjs): the forced cells as the released guide's own fill.sh prints them over the translation d228ed42f7f7e919… (all of the seat's roots in one cut). By AI agents, Wed Nov 11 2026. No macro, syntax, notation, axiom, sorry.
-/
import Derived.Test.YtphejighpbgmcaaChecked
import GoSem.Claim
import GoSem.ClaimJoined
import GoSem.ClaimMapViews
import Derived.JoinedTies
import Derived.KernelRfl
namespace Go.Proofs.Ytphejighpbgmcaa
/- THE CELL 'sum', in the pinned program and in every row, IS THE sha256 OF THE DUMP (.gsa) THAT YtphejighpbgmcaaProg.lean LOADS. Nothing in Lean hashes anything: it is a label: what it is worth is what the hold of that sum in a sandbox is worth. -/
noncomputable def Try.pinned : Pinned := { name := "ytphejighpbgmcaa", sum := "d228ed42f7f7e919bceeff20aa3e6c332abe6efe33682e65a0198e98ae4b4fbe", checked := Try.checked }
namespace Rows
def none {H : Type} : Left H := { results := [], args := [] }

/-- 'laws.FnExactSafeMethod': WHATEVER THE INPUT: true; the input reads as it did. -/
def fnExactSafeMethodSpec : ChangeSpec := { name := "fnExactSafeMethod", fn := fun _ => fun
  | [d] => { results := [.lit (.bool true)], args := [d] }
  | _ => none }
def fnExactSafeMethodRow : OpenClaim := { program := "ytphejighpbgmcaa", sum := "d228ed42f7f7e919bceeff20aa3e6c332abe6efe33682e65a0198e98ae4b4fbe", func := "loop.example/g00651/laws.FnExactSafeMethod", spec := "fnExactSafeMethod", apart := false }
def FnExactSafeMethodSaid : Prop := fnExactSafeMethodRow.holds Try.pinned (OpenSpec.ofChange fnExactSafeMethodSpec)

/-- ITS FALSE NEIGHBOUR: 'it returns false'. Refute it at one input. -/
def fnExactSafeMethodWrong : ChangeSpec := { name := "fnExactSafeMethod", fn := fun _ => fun
  | [d] => { results := [.lit (.bool false)], args := [d] }
  | _ => none }
def FnExactSafeMethodWrongFalsely : Prop := fnExactSafeMethodRow.holds Try.pinned (OpenSpec.ofChange fnExactSafeMethodWrong)

/-- 'laws.FnExactGuessed': WHATEVER THE INPUT: true; the input reads as it did. -/
def fnExactGuessedSpec : ChangeSpec := { name := "fnExactGuessed", fn := fun _ => fun
  | [d] => { results := [.lit (.bool true)], args := [d] }
  | _ => none }
def fnExactGuessedRow : OpenClaim := { program := "ytphejighpbgmcaa", sum := "d228ed42f7f7e919bceeff20aa3e6c332abe6efe33682e65a0198e98ae4b4fbe", func := "loop.example/g00651/laws.FnExactGuessed", spec := "fnExactGuessed", apart := false }
def FnExactGuessedSaid : Prop := fnExactGuessedRow.holds Try.pinned (OpenSpec.ofChange fnExactGuessedSpec)

/-- ITS FALSE NEIGHBOUR: 'it returns false'. Refute it at one input. -/
def fnExactGuessedWrong : ChangeSpec := { name := "fnExactGuessed", fn := fun _ => fun
  | [d] => { results := [.lit (.bool false)], args := [d] }
  | _ => none }
def FnExactGuessedWrongFalsely : Prop := fnExactGuessedRow.holds Try.pinned (OpenSpec.ofChange fnExactGuessedWrong)

/-- 'laws.FnExactDirsOk': WHATEVER THE INPUT: true; the input reads as it did. -/
def fnExactDirsOkSpec : ChangeSpec := { name := "fnExactDirsOk", fn := fun _ => fun
  | [d] => { results := [.lit (.bool true)], args := [d] }
  | _ => none }
def fnExactDirsOkRow : OpenClaim := { program := "ytphejighpbgmcaa", sum := "d228ed42f7f7e919bceeff20aa3e6c332abe6efe33682e65a0198e98ae4b4fbe", func := "loop.example/g00651/laws.FnExactDirsOk", spec := "fnExactDirsOk", apart := false }
def FnExactDirsOkSaid : Prop := fnExactDirsOkRow.holds Try.pinned (OpenSpec.ofChange fnExactDirsOkSpec)

/-- ITS FALSE NEIGHBOUR: 'it returns false'. Refute it at one input. -/
def fnExactDirsOkWrong : ChangeSpec := { name := "fnExactDirsOk", fn := fun _ => fun
  | [d] => { results := [.lit (.bool false)], args := [d] }
  | _ => none }
def FnExactDirsOkWrongFalsely : Prop := fnExactDirsOkRow.holds Try.pinned (OpenSpec.ofChange fnExactDirsOkWrong)

/-- 'laws.FnExactDelta': WHATEVER THE INPUT: true; the input reads as it did. -/
def fnExactDeltaSpec : ChangeSpec := { name := "fnExactDelta", fn := fun _ => fun
  | [d] => { results := [.lit (.bool true)], args := [d] }
  | _ => none }
def fnExactDeltaRow : OpenClaim := { program := "ytphejighpbgmcaa", sum := "d228ed42f7f7e919bceeff20aa3e6c332abe6efe33682e65a0198e98ae4b4fbe", func := "loop.example/g00651/laws.FnExactDelta", spec := "fnExactDelta", unfollowed := true, recurses := true, apart := false }
def FnExactDeltaSaid : Prop := fnExactDeltaRow.holds Try.pinned (OpenSpec.ofChange fnExactDeltaSpec)

/-- ITS FALSE NEIGHBOUR: 'it returns false'. Refute it at one input. -/
def fnExactDeltaWrong : ChangeSpec := { name := "fnExactDelta", fn := fun _ => fun
  | [d] => { results := [.lit (.bool false)], args := [d] }
  | _ => none }
def FnExactDeltaWrongFalsely : Prop := fnExactDeltaRow.holds Try.pinned (OpenSpec.ofChange fnExactDeltaWrong)

/-- 'laws.FnExactTagOk': WHATEVER THE INPUT: true; the input reads as it did. -/
def fnExactTagOkSpec : ChangeSpec := { name := "fnExactTagOk", fn := fun _ => fun
  | [d] => { results := [.lit (.bool true)], args := [d] }
  | _ => none }
def fnExactTagOkRow : OpenClaim := { program := "ytphejighpbgmcaa", sum := "d228ed42f7f7e919bceeff20aa3e6c332abe6efe33682e65a0198e98ae4b4fbe", func := "loop.example/g00651/laws.FnExactTagOk", spec := "fnExactTagOk", unfollowed := true, recurses := true, apart := false }
def FnExactTagOkSaid : Prop := fnExactTagOkRow.holds Try.pinned (OpenSpec.ofChange fnExactTagOkSpec)

/-- ITS FALSE NEIGHBOUR: 'it returns false'. Refute it at one input. -/
def fnExactTagOkWrong : ChangeSpec := { name := "fnExactTagOk", fn := fun _ => fun
  | [d] => { results := [.lit (.bool false)], args := [d] }
  | _ => none }
def FnExactTagOkWrongFalsely : Prop := fnExactTagOkRow.holds Try.pinned (OpenSpec.ofChange fnExactTagOkWrong)

/-- 'laws.FnExactWeakSame': WHATEVER THE INPUT: true; the input reads as it did. -/
def fnExactWeakSameSpec : ChangeSpec := { name := "fnExactWeakSame", fn := fun _ => fun
  | [d1, d2] => { results := [.lit (.bool true)], args := [d1, d2] }
  | _ => none }
def fnExactWeakSameRow : OpenClaim := { program := "ytphejighpbgmcaa", sum := "d228ed42f7f7e919bceeff20aa3e6c332abe6efe33682e65a0198e98ae4b4fbe", func := "loop.example/g00651/laws.FnExactWeakSame", spec := "fnExactWeakSame", unfollowed := true, recurses := true, apart := false }
def FnExactWeakSameSaid : Prop := fnExactWeakSameRow.holds Try.pinned (OpenSpec.ofChange fnExactWeakSameSpec)

/-- ITS FALSE NEIGHBOUR: 'it returns false'. Refute it at one input. -/
def fnExactWeakSameWrong : ChangeSpec := { name := "fnExactWeakSame", fn := fun _ => fun
  | [d1, d2] => { results := [.lit (.bool false)], args := [d1, d2] }
  | _ => none }
def FnExactWeakSameWrongFalsely : Prop := fnExactWeakSameRow.holds Try.pinned (OpenSpec.ofChange fnExactWeakSameWrong)

/- THE SECOND FORM. 'bulk': how many values and letters a reading holds, each counted each time it is reached (what is shared counts as often as it is met; a slice's spare places count too). A statement '..UptoSaid' is the law's where the arguments, and the package variables that the reading takes, are together of bulk at most 1048576: NARROWER than '..Said'. Prove '..Said' where nothing that the law and all that it calls make is longer than what came in: it says more and counts as full. Else prove '..UptoSaid'. A law counts once. -/
mutual
def uptoBulk {H : Type} : DataW H → Nat
  | .lit (.string bytes) => bytes.length + 1
  | .lit _ => 1
  | .nil => 1
  | .ptr d => uptoBulk d + 1
  | .slice elems spare => uptoBulkAll elems + uptoBulkAll spare + 1
  | .agg parts => uptoBulkAll parts + 1
  | .iface _ d => uptoBulk d + 1
  | .map entries => uptoBulkEntries entries + 1
  | .held _ => 1
def uptoBulkAll {H : Type} : List (DataW H) → Nat
  | [] => 0
  | d :: r => uptoBulk d + uptoBulkAll r
def uptoBulkEntries {H : Type} : List (Lit × DataW H) → Nat
  | [] => 0
  | x :: r => uptoBulkEntry x + uptoBulkEntries r
def uptoBulkEntry {H : Type} : Lit × DataW H → Nat
  | (.string bytes, d) => bytes.length + uptoBulk d + 1
  | (_, d) => uptoBulk d + 1
 end
def uptoSmall : (H : Type) → List (DataW H) → Bool := fun _ ds => decide (uptoBulkAll ds ≤ 1048576)
def OpenSpec.upto (s : _root_.Go.ChangeSpec) : _root_.Go.OpenSpec := { _root_.Go.OpenSpec.ofChange s with cond := some uptoSmall }

/-- 'laws.FnExactSafeMethod', WHERE WHAT IT READS IS OF BULK AT MOST 1048576: true; the input reads as it did. -/
def fnExactSafeMethodUptoRow : OpenClaim := { program := "ytphejighpbgmcaa", sum := "d228ed42f7f7e919bceeff20aa3e6c332abe6efe33682e65a0198e98ae4b4fbe", func := "loop.example/g00651/laws.FnExactSafeMethod", spec := "fnExactSafeMethod", apart := false, narrowed := true }
def FnExactSafeMethodUptoSaid : Prop := fnExactSafeMethodUptoRow.holds Try.pinned (OpenSpec.upto fnExactSafeMethodSpec)

/-- 'laws.FnExactGuessed', WHERE WHAT IT READS IS OF BULK AT MOST 1048576: true; the input reads as it did. -/
def fnExactGuessedUptoRow : OpenClaim := { program := "ytphejighpbgmcaa", sum := "d228ed42f7f7e919bceeff20aa3e6c332abe6efe33682e65a0198e98ae4b4fbe", func := "loop.example/g00651/laws.FnExactGuessed", spec := "fnExactGuessed", apart := false, narrowed := true }
def FnExactGuessedUptoSaid : Prop := fnExactGuessedUptoRow.holds Try.pinned (OpenSpec.upto fnExactGuessedSpec)

/-- 'laws.FnExactDirsOk', WHERE WHAT IT READS IS OF BULK AT MOST 1048576: true; the input reads as it did. -/
def fnExactDirsOkUptoRow : OpenClaim := { program := "ytphejighpbgmcaa", sum := "d228ed42f7f7e919bceeff20aa3e6c332abe6efe33682e65a0198e98ae4b4fbe", func := "loop.example/g00651/laws.FnExactDirsOk", spec := "fnExactDirsOk", apart := false, narrowed := true }
def FnExactDirsOkUptoSaid : Prop := fnExactDirsOkUptoRow.holds Try.pinned (OpenSpec.upto fnExactDirsOkSpec)

/-- 'laws.FnExactDelta', WHERE WHAT IT READS IS OF BULK AT MOST 1048576: true; the input reads as it did. -/
def fnExactDeltaUptoRow : OpenClaim := { program := "ytphejighpbgmcaa", sum := "d228ed42f7f7e919bceeff20aa3e6c332abe6efe33682e65a0198e98ae4b4fbe", func := "loop.example/g00651/laws.FnExactDelta", spec := "fnExactDelta", unfollowed := true, recurses := true, apart := false, narrowed := true }
def FnExactDeltaUptoSaid : Prop := fnExactDeltaUptoRow.holds Try.pinned (OpenSpec.upto fnExactDeltaSpec)

/-- 'laws.FnExactTagOk', WHERE WHAT IT READS IS OF BULK AT MOST 1048576: true; the input reads as it did. -/
def fnExactTagOkUptoRow : OpenClaim := { program := "ytphejighpbgmcaa", sum := "d228ed42f7f7e919bceeff20aa3e6c332abe6efe33682e65a0198e98ae4b4fbe", func := "loop.example/g00651/laws.FnExactTagOk", spec := "fnExactTagOk", unfollowed := true, recurses := true, apart := false, narrowed := true }
def FnExactTagOkUptoSaid : Prop := fnExactTagOkUptoRow.holds Try.pinned (OpenSpec.upto fnExactTagOkSpec)

/-- 'laws.FnExactWeakSame', WHERE WHAT IT READS IS OF BULK AT MOST 1048576: true; the input reads as it did. -/
def fnExactWeakSameUptoRow : OpenClaim := { program := "ytphejighpbgmcaa", sum := "d228ed42f7f7e919bceeff20aa3e6c332abe6efe33682e65a0198e98ae4b4fbe", func := "loop.example/g00651/laws.FnExactWeakSame", spec := "fnExactWeakSame", unfollowed := true, recurses := true, apart := false, narrowed := true }
def FnExactWeakSameUptoSaid : Prop := fnExactWeakSameUptoRow.holds Try.pinned (OpenSpec.upto fnExactWeakSameSpec)

end Rows
end Go.Proofs.Ytphejighpbgmcaa
