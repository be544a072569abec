-- laid by a program of this session (wip/lay/trim.py) out of the words that print.sh prints: what this law comes to; Lean checks it
import Derived.Test.YtkcmdfeiaafdjaaVFnHopsWInv
import Derived.Test.YtkcmdfeiaafdjaaVFnHopsWFootNe
namespace Go.Proofs.YtkcmdfeiaafdjaaW.PrintWords
open Go.RowKit
end Go.Proofs.YtkcmdfeiaafdjaaW.PrintWords
namespace Go.Proofs.YtkcmdfeiaafdjaaW.PrintLast
section
variable {ops : Array Oper} {a : Act} {o og : Oper} {g : Nat} {t : Tmp} {u : Bool}
end
end Go.Proofs.YtkcmdfeiaafdjaaW.PrintLast
