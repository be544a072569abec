-- laid by a program of this session (wip/lay/trim.py) out of the words that print.sh prints: what this law comes to; Lean checks it
import Derived.Test.YtkcmdfeiaafdjaaVFnScreenedWTab
namespace Go.Proofs.YtkcmdfeiaafdjaaW.PrintLast
def up (b : Nat → Bool) (i : Nat) : Nat → Bool := fun j => if j = i then true else b j
section
variable {P : Program} {ops : Array Oper} {Q : Exit → Act → World → Prop} {md : Region.Mode} {T : Bool × List (List Nat × List Nat)} {B : List Nat} {O : List Nat} {b : Nat → Bool} {i j n : Nat}
end
end Go.Proofs.YtkcmdfeiaafdjaaW.PrintLast
-- dedented
