-- laid by a program of this session (wip/lay/trim.py) out of the words that print.sh prints: what this law comes to; Lean checks it
import Derived.Test.YtbgdmbjipladoaaVFnExactPlayWTab
/-! ### 56. Four, five, six operations that may come up next, in any order -/
namespace Go.Proofs.YtbgdmbjipladoaaW.PrintLast
section
variable {P : Program} {ops : Array Oper} {Q : Exit → Act → World → Prop} {md : Region.Mode} {S : World → Prop} {ds : List Nat} {T : Bool × List (List Nat × List Nat)}
end
end Go.Proofs.YtbgdmbjipladoaaW.PrintLast
