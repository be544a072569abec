/- FnExactSameSample: the one statement in plain Lean. No condition. -/
import Derived.Test.YtplhdplebbhakaaSFnExactSameSample
set_option linter.unusedVariables false
set_option linter.unusedSimpArgs false
namespace Go.Proofs.Ytplhdplebbhakaa.Pure
open Go.RowKit Go.Proofs.Ytplhdplebbhakaa.PFnExactSameSample Go.Proofs.Ytplhdplebbhakaa.SFnExactSameSample Go.Proofs.YtplhdplebbhakaaW.PrintWords Go.Proofs.YtplhdplebbhakaaW.PrintLast Go.Proofs.YtplhdplebbhakaaW.PrintMore
theorem FnExactSameSample : SFnExactSameSample.Pure := by
  unfold SFnExactSameSample.Pure
  intros
  rfl

end Go.Proofs.Ytplhdplebbhakaa.Pure
