/- StepSize of the program and of the reference agree at every int: outside 0 to 48 both are 0; inside, the 49 values are computed. No condition. -/
import Derived.Test.YteaelhdcmnhcbaaPFnExactStepSizex1
namespace Go.Proofs.Yteaelhdcmnhcbaa.Pure
open Go.RowKit Go.Proofs.Yteaelhdcmnhcbaa.PFnExactStepSize Go.Proofs.YteaelhdcmnhcbaaW.PrintWords Go.Proofs.YteaelhdcmnhcbaaW.PrintLast


theorem step_in : ∀ n : Fin 49, laws_FnExactStepSize.f 60 (n.val : Int) = some true := by decide +kernel

theorem FnExactStepSize : laws_FnExactStepSize.Pure := by
  intro a _
  refine ⟨60, ?_⟩
  by_cases h : 0 ≤ a ∧ a ≤ 48
  · have := step_in ⟨a.toNat, by omega⟩
    simpa [Int.toNat_of_nonneg h.1] using this
  · unfold laws_FnExactStepSize.f spec_StepSize.f impl_StepSize.f spec_l1In.f impl_in.f
    by_cases h0 : a ≥ 0
    · have h1 : ¬ a ≤ 48 := by omega
      simp [h0, h1]
    · simp [h0]

end Go.Proofs.Yteaelhdcmnhcbaa.Pure
