/- FnExactAddSample: the one statement in plain Lean. No condition. -/
import Derived.Test.YtplhdplebbhakaaSFnExactAddSample
set_option linter.unusedVariables false
set_option linter.unusedSimpArgs false
namespace Go.Proofs.Ytplhdplebbhakaa.Pure
open Go.RowKit Go.Proofs.Ytplhdplebbhakaa.PFnExactAddSample Go.Proofs.Ytplhdplebbhakaa.SFnExactAddSample Go.Proofs.YtplhdplebbhakaaW.PrintWords Go.Proofs.YtplhdplebbhakaaW.PrintLast Go.Proofs.YtplhdplebbhakaaW.PrintMore
theorem FnExactAddSample : SFnExactAddSample.Pure := by
  unfold SFnExactAddSample.Pure
  intros
  rfl

end Go.Proofs.Ytplhdplebbhakaa.Pure
