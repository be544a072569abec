/- FnExactSubSample: the one statement in plain Lean. No condition. -/
import Derived.Test.YtplhdplebbhakaaSFnExactSubSample
set_option linter.unusedVariables false
set_option linter.unusedSimpArgs false
namespace Go.Proofs.Ytplhdplebbhakaa.Pure
open Go.RowKit Go.Proofs.Ytplhdplebbhakaa.PFnExactSubSample Go.Proofs.Ytplhdplebbhakaa.SFnExactSubSample Go.Proofs.YtplhdplebbhakaaW.PrintWords Go.Proofs.YtplhdplebbhakaaW.PrintLast Go.Proofs.YtplhdplebbhakaaW.PrintMore
theorem FnExactSubSample : SFnExactSubSample.Pure := by
  unfold SFnExactSubSample.Pure
  intros
  rfl

end Go.Proofs.Ytplhdplebbhakaa.Pure
