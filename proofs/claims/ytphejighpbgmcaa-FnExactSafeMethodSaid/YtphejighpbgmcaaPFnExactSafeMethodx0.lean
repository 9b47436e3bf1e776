-- PRINTED BY print.sh 35421559b90ae4d0a3588c463048766b98c2df88dd9212a6774a882060cdf62d: not written by this session
import Derived.Test.YtphejighpbgmcaaProg
import Derived.Below
import Derived.Deep.Draws
import Derived.Deep.AppendLies
import Derived.Maps.AppendAt
import Derived.OwnWalk
import Derived.Laws.BytesArg
import Derived.Laws.MakeOwn
import Derived.Laws.OwnMore
import Derived.Deep.OwnRows
import Derived.Tactics
import Derived.Lib.ConvBytes
import Derived.Laws.Slices
import Derived.WalkKit
import Derived.KernelRfl
import Derived.RowKit3
import Derived.Deep.LoopGhost
import Derived.Deep.QuietTactic
import Derived.BigQuiet
import Derived.WideLaws
import Derived.Deep.DeepCutAuto
import Derived.Deep.CutBlock
import Derived.Deep.RegionHeld3
import Derived.Laws.Rows
import Derived.Lib.AppendStr
import Derived.ArgAppend
import Derived.Laws.IdiomCopy
import Derived.OrdersHeld
import Derived.Laws.BitsLemmas
import Derived.RowKit
import Derived.Test.YtphejighpbgmcaaWWords
import Derived.Test.YtphejighpbgmcaaWLast
import Derived.Test.YtphejighpbgmcaaWTab
import Derived.Test.YtphejighpbgmcaaWFour
import Derived.Test.YtphejighpbgmcaaWQPut
import Derived.Test.YtphejighpbgmcaaWApart
import Derived.Test.YtphejighpbgmcaaWArr
import Derived.Test.YtphejighpbgmcaaWZeros
import Derived.Test.YtphejighpbgmcaaWFoot
import Derived.Test.YtphejighpbgmcaaWKept
import Derived.Test.YtphejighpbgmcaaWShare
import Derived.Test.YtphejighpbgmcaaWN
import Derived.Test.YtphejighpbgmcaaWFootNe
import Derived.Test.YtphejighpbgmcaaWAt
import Derived.Test.YtphejighpbgmcaaWEqStruct
import Derived.Test.YtphejighpbgmcaaWRepsOne
import Derived.Test.YtphejighpbgmcaaWInv
import Derived.Test.YtphejighpbgmcaaWInvWords
import Derived.Test.YtphejighpbgmcaaWGuard
import Derived.Test.YtphejighpbgmcaaWNEv
import Derived.Test.YtphejighpbgmcaaWMore
namespace Go.Proofs.Ytphejighpbgmcaa.PFnExactSafeMethod
open Go.RowKit Go.Proofs.YtphejighpbgmcaaW.PrintWords Go.Proofs.YtphejighpbgmcaaW.PrintLast Go.Proofs.YtphejighpbgmcaaW.PrintMore
attribute [local go_sem] max2_int min2_int max_two min_two max_three min_three max_four min_four   -- for this text's walks alone
set_option linter.unusedVariables false
set_option linter.unusedSimpArgs false



def errW : Option Int → Value
  | none => .nilIface
  | some c => .iface 0 (.int .i64 c)
theorem errW_none : errW none = .nilIface := rfl
theorem errW_some (c : Int) : errW (some c) = .iface 0 (.int .i64 c) := rfl

-- the values' own types

end Go.Proofs.Ytphejighpbgmcaa.PFnExactSafeMethod
