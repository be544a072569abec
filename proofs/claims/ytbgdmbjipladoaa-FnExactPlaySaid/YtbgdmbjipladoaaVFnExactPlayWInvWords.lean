-- laid by a program of this session (wip/lay/trim.py) out of the words that print.sh prints: what this law comes to; Lean checks it
import Derived.Test.YtbgdmbjipladoaaVFnExactPlayWInv
import Derived.Test.YtbgdmbjipladoaaVFnExactPlayWFootNe
namespace Go.Proofs.YtbgdmbjipladoaaW.PrintWords
open Go.RowKit
end Go.Proofs.YtbgdmbjipladoaaW.PrintWords
namespace Go.Proofs.YtbgdmbjipladoaaW.PrintLast
section
variable {ops : Array Oper} {a : Act} {o og : Oper} {g : Nat} {t : Tmp} {u : Bool}
end
end Go.Proofs.YtbgdmbjipladoaaW.PrintLast
