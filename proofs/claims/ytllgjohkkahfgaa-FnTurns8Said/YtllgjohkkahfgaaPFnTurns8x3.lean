-- laid by a program of this session (wip/lay/lay.py); Lean checks it
import Derived.Test.YtllgjohkkahfgaaPFnTurns8x0
namespace Go.Proofs.Ytllgjohkkahfgaa.PFnTurns8
open Go.RowKit Go.Proofs.YtllgjohkkahfgaaW.PrintWords Go.Proofs.YtllgjohkkahfgaaW.PrintLast Go.Proofs.YtllgjohkkahfgaaW.PrintMore
attribute [local go_sem] max2_int min2_int max_two min_two max_three min_three max_four min_four   -- for this text's walks alone
set_option linter.unusedVariables false
set_option linter.unusedSimpArgs false

/-! ### runtime_boundsError_RuntimeError: function 86 -/
def runtime_boundsError_RuntimeError.f (l0 : List Int) (a1 : Int) : Option Bool := some (decide (a1 ∈ l0))

end Go.Proofs.Ytllgjohkkahfgaa.PFnTurns8
