-- laid by a program of this session (wip/lay/trim.py) out of the words that print.sh prints: what this law comes to; Lean checks it
import Derived.Test.YtodehmbgcncnhaaVFnReservedWInv
import Derived.Test.YtodehmbgcncnhaaVFnReservedWFootNe
namespace Go.Proofs.YtodehmbgcncnhaaW.PrintWords
open Go.RowKit
end Go.Proofs.YtodehmbgcncnhaaW.PrintWords
namespace Go.Proofs.YtodehmbgcncnhaaW.PrintLast
section
variable {ops : Array Oper} {a : Act} {o og : Oper} {g : Nat} {t : Tmp} {u : Bool}
end
end Go.Proofs.YtodehmbgcncnhaaW.PrintLast
