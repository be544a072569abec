/- FnExactWiden: the one statement in plain Lean. No condition. -/
import Derived.Test.YtplhdplebbhakaaSFnExactWiden
set_option linter.unusedVariables false
set_option linter.unusedSimpArgs false
namespace Go.Proofs.Ytplhdplebbhakaa.Pure
open Go.RowKit Go.Proofs.Ytplhdplebbhakaa.PFnExactWiden Go.Proofs.Ytplhdplebbhakaa.SFnExactWiden Go.Proofs.YtplhdplebbhakaaW.PrintWords Go.Proofs.YtplhdplebbhakaaW.PrintLast Go.Proofs.YtplhdplebbhakaaW.PrintMore
theorem FnExactWiden : SFnExactWiden.Pure := by
  intros
  rfl

end Go.Proofs.Ytplhdplebbhakaa.Pure
