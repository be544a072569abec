/- FnExactMulWide: the one statement in plain Lean. No condition. -/
import Derived.Test.YtplhdplebbhakaaSFnExactMulWide
set_option linter.unusedVariables false
set_option linter.unusedSimpArgs false
namespace Go.Proofs.Ytplhdplebbhakaa.Pure
open Go.RowKit Go.Proofs.Ytplhdplebbhakaa.PFnExactMulWide Go.Proofs.Ytplhdplebbhakaa.SFnExactMulWide Go.Proofs.YtplhdplebbhakaaW.PrintWords Go.Proofs.YtplhdplebbhakaaW.PrintLast Go.Proofs.YtplhdplebbhakaaW.PrintMore
theorem FnExactMulWide : SFnExactMulWide.Pure := by
  unfold SFnExactMulWide.Pure
  intros
  rfl

end Go.Proofs.Ytplhdplebbhakaa.Pure
