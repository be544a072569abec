-- laid by a program of this session (wip/lay/trim.py) out of the words that print.sh prints: what this law comes to; Lean checks it
import Derived.Test.YtllgjohkkahfgaaVFnTurns8WInv
import Derived.Test.YtllgjohkkahfgaaVFnTurns8WFootNe
namespace Go.Proofs.YtllgjohkkahfgaaW.PrintWords
open Go.RowKit
end Go.Proofs.YtllgjohkkahfgaaW.PrintWords
namespace Go.Proofs.YtllgjohkkahfgaaW.PrintLast
section
variable {ops : Array Oper} {a : Act} {o og : Oper} {g : Nat} {t : Tmp} {u : Bool}
end
end Go.Proofs.YtllgjohkkahfgaaW.PrintLast
