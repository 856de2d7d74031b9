/- For each Go function that one statement reaches: a plain function with the same answers, and the proof that the call comes to them. Conditions: those that each contract names. Written by a program of this repository. -/
import Derived.Test.YtnjjkbdpoolkpaaProg
import Derived.Below
import Derived.Deep.Draws
import Derived.Deep.AppendLies
import Derived.Maps.AppendAt
import Derived.OwnWalk
import Derived.Laws.BytesArg
import Derived.Laws.MakeOwn
import Derived.Laws.OwnMore
import Derived.Deep.OwnRows
import Derived.Tactics
import Derived.Lib.ConvBytes
import Derived.Laws.Slices
import Derived.WalkKit
import Derived.KernelRfl
import Derived.RowKit3
import Derived.Deep.LoopGhost
import Derived.Deep.QuietTactic
import Derived.BigQuiet
import Derived.WideLaws
import Derived.Deep.DeepCutAuto
import Derived.Deep.CutBlock
import Derived.Deep.RegionHeld3
import Derived.Laws.Rows
import Derived.Lib.AppendStr
import Derived.ArgAppend
import Derived.Laws.IdiomCopy
import Derived.OrdersHeld
import Derived.Laws.BitsLemmas
import Derived.RowKit
import Derived.Test.YtnjjkbdpoolkpaaWWords
import Derived.Test.YtnjjkbdpoolkpaaWLast
import Derived.Test.YtnjjkbdpoolkpaaWTab
import Derived.Test.YtnjjkbdpoolkpaaWFour
import Derived.Test.YtnjjkbdpoolkpaaWQPut
import Derived.Test.YtnjjkbdpoolkpaaWApart
import Derived.Test.YtnjjkbdpoolkpaaWArr
import Derived.Test.YtnjjkbdpoolkpaaWZeros
import Derived.Test.YtnjjkbdpoolkpaaWFoot
import Derived.Test.YtnjjkbdpoolkpaaWKept
import Derived.Test.YtnjjkbdpoolkpaaWShare
import Derived.Test.YtnjjkbdpoolkpaaWN
import Derived.Test.YtnjjkbdpoolkpaaWFootNe
import Derived.Test.YtnjjkbdpoolkpaaWAt
import Derived.Test.YtnjjkbdpoolkpaaWEqStruct
import Derived.Test.YtnjjkbdpoolkpaaWRepsOne
import Derived.Test.YtnjjkbdpoolkpaaWInv
import Derived.Test.YtnjjkbdpoolkpaaWInvWords
import Derived.Test.YtnjjkbdpoolkpaaWGuard
import Derived.Test.YtnjjkbdpoolkpaaWNEv
import Derived.Test.YtnjjkbdpoolkpaaWMore
namespace Go.Proofs.Ytnjjkbdpoolkpaa.QFnExactConstants
open Go.RowKit Go.Proofs.YtnjjkbdpoolkpaaW.PrintWords Go.Proofs.YtnjjkbdpoolkpaaW.PrintLast Go.Proofs.YtnjjkbdpoolkpaaW.PrintMore
attribute [local go_sem] max2_int min2_int max_two min_two max_three min_three max_four min_four   -- for this text's walks alone
set_option linter.unusedVariables false
set_option linter.unusedSimpArgs false



def errW : Option Int → Value
  | none => .nilIface
  | some c => .iface 0 (.int .i64 c)
theorem errW_none : errW none = .nilIface := rfl
theorem errW_some (c : Int) : errW (some c) = .iface 0 (.int .i64 c) := rfl

-- the values' own types

end Go.Proofs.Ytnjjkbdpoolkpaa.QFnExactConstants
