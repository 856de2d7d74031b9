/- For each Go function that one statement reaches: a plain function with the same answers, and the proof that the call comes to them. Conditions: those that each contract names. Written by a program of this repository. -/
import Derived.Test.YtopddfiiglookaaProg
import Derived.Below
import Derived.Deep.Draws
import Derived.Deep.AppendLies
import Derived.Maps.AppendAt
import Derived.OwnWalk
import Derived.Laws.BytesArg
import Derived.Laws.MakeOwn
import Derived.Laws.OwnMore
import Derived.Deep.OwnRows
import Derived.Tactics
import Derived.Lib.ConvBytes
import Derived.Laws.Slices
import Derived.WalkKit
import Derived.KernelRfl
import Derived.RowKit3
import Derived.Deep.LoopGhost
import Derived.Deep.QuietTactic
import Derived.BigQuiet
import Derived.WideLaws
import Derived.Deep.DeepCutAuto
import Derived.Deep.CutBlock
import Derived.Deep.RegionHeld3
import Derived.Laws.Rows
import Derived.Lib.AppendStr
import Derived.ArgAppend
import Derived.Laws.IdiomCopy
import Derived.OrdersHeld
import Derived.Laws.BitsLemmas
import Derived.RowKit
import Derived.Test.YtopddfiiglookaaWWords
import Derived.Test.YtopddfiiglookaaWLast
import Derived.Test.YtopddfiiglookaaWTab
import Derived.Test.YtopddfiiglookaaWFour
import Derived.Test.YtopddfiiglookaaWQPut
import Derived.Test.YtopddfiiglookaaWApart
import Derived.Test.YtopddfiiglookaaWArr
import Derived.Test.YtopddfiiglookaaWZeros
import Derived.Test.YtopddfiiglookaaWFoot
import Derived.Test.YtopddfiiglookaaWKept
import Derived.Test.YtopddfiiglookaaWShare
import Derived.Test.YtopddfiiglookaaWN
import Derived.Test.YtopddfiiglookaaWFootNe
import Derived.Test.YtopddfiiglookaaWAt
import Derived.Test.YtopddfiiglookaaWEqStruct
import Derived.Test.YtopddfiiglookaaWRepsOne
import Derived.Test.YtopddfiiglookaaWInv
import Derived.Test.YtopddfiiglookaaWInvWords
import Derived.Test.YtopddfiiglookaaWGuard
import Derived.Test.YtopddfiiglookaaWNEv
import Derived.Test.YtopddfiiglookaaWMore
import Derived.Test.YtopddfiiglookaaMore2
namespace Go.Proofs.Ytopddfiiglookaa.QFnExactPartAt
open Go.RowKit Go.Proofs.YtopddfiiglookaaW.PrintWords Go.Proofs.YtopddfiiglookaaW.PrintLast Go.Proofs.YtopddfiiglookaaW.PrintMore
attribute [local go_sem] max2_int min2_int max_two min_two max_three min_three max_four min_four Go.Proofs.YtopddfiiglookaaW.PrintMore2.isSome_setCell   -- for this text's walks alone
set_option linter.unusedVariables false
set_option linter.unusedSimpArgs false



def errW : Option Int → Value
  | none => .nilIface
  | some c => .iface 0 (.int .i64 c)
theorem errW_none : errW none = .nilIface := rfl
theorem errW_some (c : Int) : errW (some c) = .iface 0 (.int .i64 c) := rfl

theorem info3 : (Try.prog.info? 3).map (fun i => (i.zero, i.size, i.bytes)) = some (some (.int .i64 0), 1, 8) := by kernel_rfl
-- the values' own types

end Go.Proofs.Ytopddfiiglookaa.QFnExactPartAt
