/- FromLaw of the program and of the reference agree at every int: outside 0 to 255 both are 0; inside, the 256 values are computed. No condition. -/
import Derived.Test.YteaelhdcmnhcbaaPFnExactFromLawx1
namespace Go.Proofs.Yteaelhdcmnhcbaa.Pure
open Go.RowKit Go.Proofs.Yteaelhdcmnhcbaa.PFnExactFromLaw Go.Proofs.YteaelhdcmnhcbaaW.PrintWords Go.Proofs.YteaelhdcmnhcbaaW.PrintLast


theorem from_in : ∀ n : Fin 256, laws_FnExactFromLaw.f (n.val : Int) = some true := by decide +kernel

theorem FnExactFromLaw : laws_FnExactFromLaw.Pure := by
  intro a _
  by_cases h : 0 ≤ a ∧ a ≤ 255
  · have := from_in ⟨a.toNat, by omega⟩
    simpa [Int.toNat_of_nonneg h.1] using this
  · unfold laws_FnExactFromLaw.f spec_FromLaw.f impl_FromLaw.f spec_l1In.f impl_in.f
    by_cases h0 : a ≥ 0
    · have h1 : ¬ a ≤ 255 := by omega
      simp [h0, h1]
    · simp [h0]

end Go.Proofs.Yteaelhdcmnhcbaa.Pure
