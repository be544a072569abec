-- laid by a program of this session (wip/lay/lay.py); Lean checks it
import Derived.Test.YtodehmbgcncnhaaProg
import Derived.Below
import Derived.Deep.Draws
import Derived.Deep.AppendLies
import Derived.Maps.AppendAt
import Derived.OwnWalk
import Derived.Laws.BytesArg
import Derived.Laws.MakeOwn
import Derived.Laws.OwnMore
import Derived.Deep.OwnRows
import Derived.Tactics
import Derived.Lib.ConvBytes
import Derived.Laws.Slices
import Derived.WalkKit
import Derived.KernelRfl
import Derived.RowKit3
import Derived.Deep.LoopGhost
import Derived.Deep.QuietTactic
import Derived.BigQuiet
import Derived.WideLaws
import Derived.Deep.DeepCutAuto
import Derived.Deep.CutBlock
import Derived.Deep.RegionHeld3
import Derived.Laws.Rows
import Derived.Lib.AppendStr
import Derived.ArgAppend
import Derived.Laws.IdiomCopy
import Derived.OrdersHeld
import Derived.Laws.BitsLemmas
import Derived.RowKit
import Derived.Test.YtodehmbgcncnhaaWWords
import Derived.Test.YtodehmbgcncnhaaWLast
import Derived.Test.YtodehmbgcncnhaaWTab
import Derived.Test.YtodehmbgcncnhaaWFour
import Derived.Test.YtodehmbgcncnhaaWQPut
import Derived.Test.YtodehmbgcncnhaaWApart
import Derived.Test.YtodehmbgcncnhaaWArr
import Derived.Test.YtodehmbgcncnhaaWZeros
import Derived.Test.YtodehmbgcncnhaaWFoot
import Derived.Test.YtodehmbgcncnhaaWKept
import Derived.Test.YtodehmbgcncnhaaWShare
import Derived.Test.YtodehmbgcncnhaaWN
import Derived.Test.YtodehmbgcncnhaaWFootNe
import Derived.Test.YtodehmbgcncnhaaWAt
import Derived.Test.YtodehmbgcncnhaaWEqStruct
import Derived.Test.YtodehmbgcncnhaaWRepsOne
import Derived.Test.YtodehmbgcncnhaaWInv
import Derived.Test.YtodehmbgcncnhaaWInvWords
import Derived.Test.YtodehmbgcncnhaaWGuard
import Derived.Test.YtodehmbgcncnhaaWNEv
import Derived.Test.YtodehmbgcncnhaaWMore
namespace Go.Proofs.Ytodehmbgcncnhaa.PFnExactSettleUp
open Go.RowKit Go.Proofs.YtodehmbgcncnhaaW.PrintWords Go.Proofs.YtodehmbgcncnhaaW.PrintLast Go.Proofs.YtodehmbgcncnhaaW.PrintMore
attribute [local go_sem] max2_int min2_int max_two min_two max_three min_three max_four min_four   -- for this text's walks alone
set_option linter.unusedVariables false
set_option linter.unusedSimpArgs false



def errW : Option Int → Value
  | none => .nilIface
  | some c => .iface 0 (.int .i64 c)
theorem errW_none : errW none = .nilIface := rfl
theorem errW_some (c : Int) : errW (some c) = .iface 0 (.int .i64 c) := rfl

-- the values' own types

end Go.Proofs.Ytodehmbgcncnhaa.PFnExactSettleUp
