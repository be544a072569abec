-- laid by a program of this session (wip/lay/lay.py); Lean checks it
import Derived.Test.YteaelhdcmnhcbaaProg
import Derived.Below
import Derived.Deep.Draws
import Derived.Deep.AppendLies
import Derived.Maps.AppendAt
import Derived.OwnWalk
import Derived.Laws.BytesArg
import Derived.Laws.MakeOwn
import Derived.Laws.OwnMore
import Derived.Deep.OwnRows
import Derived.Tactics
import Derived.Lib.ConvBytes
import Derived.Laws.Slices
import Derived.WalkKit
import Derived.KernelRfl
import Derived.RowKit3
import Derived.Deep.LoopGhost
import Derived.Deep.QuietTactic
import Derived.BigQuiet
import Derived.WideLaws
import Derived.Deep.DeepCutAuto
import Derived.Deep.CutBlock
import Derived.Deep.RegionHeld3
import Derived.Laws.Rows
import Derived.Lib.AppendStr
import Derived.ArgAppend
import Derived.Laws.IdiomCopy
import Derived.OrdersHeld
import Derived.Laws.BitsLemmas
import Derived.RowKit
import Derived.Test.YteaelhdcmnhcbaaWWords
import Derived.Test.YteaelhdcmnhcbaaWLast
import Derived.Test.YteaelhdcmnhcbaaWTab
import Derived.Test.YteaelhdcmnhcbaaWFour
import Derived.Test.YteaelhdcmnhcbaaWQPut
import Derived.Test.YteaelhdcmnhcbaaWApart
import Derived.Test.YteaelhdcmnhcbaaWArr
import Derived.Test.YteaelhdcmnhcbaaWZeros
import Derived.Test.YteaelhdcmnhcbaaWFoot
import Derived.Test.YteaelhdcmnhcbaaWKept
import Derived.Test.YteaelhdcmnhcbaaWShare
import Derived.Test.YteaelhdcmnhcbaaWN
import Derived.Test.YteaelhdcmnhcbaaWFootNe
import Derived.Test.YteaelhdcmnhcbaaWAt
import Derived.Test.YteaelhdcmnhcbaaWEqStruct
import Derived.Test.YteaelhdcmnhcbaaWRepsOne
import Derived.Test.YteaelhdcmnhcbaaWInv
import Derived.Test.YteaelhdcmnhcbaaWInvWords
import Derived.Test.YteaelhdcmnhcbaaWGuard
import Derived.Test.YteaelhdcmnhcbaaWNEv
import Derived.Test.YteaelhdcmnhcbaaWMore
namespace Go.Proofs.Yteaelhdcmnhcbaa.PFnVoiceBack
open Go.RowKit Go.Proofs.YteaelhdcmnhcbaaW.PrintWords Go.Proofs.YteaelhdcmnhcbaaW.PrintLast Go.Proofs.YteaelhdcmnhcbaaW.PrintMore
attribute [local go_sem] max2_int min2_int max_two min_two max_three min_three max_four min_four   -- for this text's walks alone
set_option linter.unusedVariables false
set_option linter.unusedSimpArgs false



def errW : Option Int → Value
  | none => .nilIface
  | some c => .iface 0 (.int .i64 c)
theorem errW_none : errW none = .nilIface := rfl
theorem errW_some (c : Int) : errW (some c) = .iface 0 (.int .i64 c) := rfl

theorem info3 : (Try.prog.info? 3).map (fun i => (i.zero, i.size, i.bytes)) = some (some (.int .i64 0), 1, 8) := by kernel_rfl
-- the values' own types

end Go.Proofs.Yteaelhdcmnhcbaa.PFnVoiceBack
