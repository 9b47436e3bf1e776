-- Written by a program of ours (myprint.py, by way of the kit's print) out of Lean's print of the translation.
import Derived.Test.YtahgiblifkchaaaDoorProg
import Derived.Below
import Derived.Deep.Draws
import Derived.Deep.AppendLies
import Derived.Maps.AppendAt
import Derived.OwnWalk
import Derived.Laws.BytesArg
import Derived.Laws.MakeOwn
import Derived.Laws.OwnMore
import Derived.Deep.OwnRows
import Derived.Tactics
import Derived.Lib.ConvBytes
import Derived.Laws.Slices
import Derived.WalkKit
import Derived.KernelRfl
import Derived.RowKit3
import Derived.Deep.LoopGhost
import Derived.Deep.QuietTactic
import Derived.BigQuiet
import Derived.WideLaws
import Derived.Deep.DeepCutAuto
import Derived.Deep.CutBlock
import Derived.Deep.RegionHeld3
import Derived.Laws.Rows
import Derived.Lib.AppendStr
import Derived.ArgAppend
import Derived.Laws.IdiomCopy
import Derived.OrdersHeld
import Derived.Laws.BitsLemmas
import Derived.RowKit
import Derived.Test.YtahgiblifkchaaaDoorWWords
import Derived.Test.YtahgiblifkchaaaDoorWLast
import Derived.Test.YtahgiblifkchaaaDoorWTab
import Derived.Test.YtahgiblifkchaaaDoorWFour
import Derived.Test.YtahgiblifkchaaaDoorWQPut
import Derived.Test.YtahgiblifkchaaaDoorWApart
import Derived.Test.YtahgiblifkchaaaDoorWArr
import Derived.Test.YtahgiblifkchaaaDoorWZeros
import Derived.Test.YtahgiblifkchaaaDoorWFoot
import Derived.Test.YtahgiblifkchaaaDoorWKept
import Derived.Test.YtahgiblifkchaaaDoorWShare
import Derived.Test.YtahgiblifkchaaaDoorWN
import Derived.Test.YtahgiblifkchaaaDoorWFootNe
import Derived.Test.YtahgiblifkchaaaDoorWAt
import Derived.Test.YtahgiblifkchaaaDoorWEqStruct
import Derived.Test.YtahgiblifkchaaaDoorWRepsOne
import Derived.Test.YtahgiblifkchaaaDoorWInv
import Derived.Test.YtahgiblifkchaaaDoorWInvWords
import Derived.Test.YtahgiblifkchaaaDoorWGuard
import Derived.Test.YtahgiblifkchaaaDoorWNEv
import Derived.Test.YtahgiblifkchaaaDoorWMore
import Derived.Test.YtahgiblifkchaaaDoorOwn
namespace Go.Proofs.YtahgiblifkchaaaDoor.P
open Go.RowKit Go.Proofs.YtahgiblifkchaaaDoorW.PrintWords Go.Proofs.YtahgiblifkchaaaDoorW.PrintLast Go.Proofs.YtahgiblifkchaaaDoorW.PrintMore
attribute [local go_sem] max2_int min2_int max_two min_two max_three min_three max_four min_four   -- for this text's walks alone
set_option linter.unusedVariables false
set_option linter.unusedSimpArgs false



def errW : Option Int → Value
  | none => .nilIface
  | some c => .iface 0 (.int .i64 c)
theorem errW_none : errW none = .nilIface := rfl
theorem errW_some (c : Int) : errW (some c) = .iface 0 (.int .i64 c) := rfl

theorem info5 : (Tryd.prog.info? 5).map (fun i => (i.zero, i.size, i.bytes)) = some (some (.int .u8 0), 1, 1) := by kernel_rfl
-- the values' own types

end Go.Proofs.YtahgiblifkchaaaDoor.P
