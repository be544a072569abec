-- laid by a program of this session (wip/lay/lay.py); Lean checks it
import Derived.Test.YteaelhdcmnhcbaaPFnFramedx8
import Derived.Test.YteaelhdcmnhcbaaOpen
namespace Go.Proofs.Yteaelhdcmnhcbaa.SFnFramed
open Go.RowKit Go.WideShapes Go.Proofs.Yteaelhdcmnhcbaa.PFnFramed Go.Proofs.Yteaelhdcmnhcbaa.Open Go.Proofs.YteaelhdcmnhcbaaW.PrintWords Go.Proofs.YteaelhdcmnhcbaaW.PrintLast
set_option linter.unusedVariables false
set_option maxRecDepth 100000
/-- The one statement in plain Lean. -/
def Pure : Prop := ∀ (l0 : List (Int)) , ((∀ y ∈ l0, (Lit.int .u8 y).wf = true) ∧ l0.length ≤ maxLen) → ∃ k, laws_FnFramed.f k l0 = some true
theorem opens5 : Opens Try.prog 5 (Kd.int .u8) (fun x => (Lit.int .u8 x).wf = true) := Opens.int Try.underlying5 (by kernel_rfl)
theorem opens28 : Opens Try.prog 28 (Kd.slice 5 (Kd.int .u8)) (fun x => (∀ y ∈ x, (Lit.int .u8 y).wf = true) ∧ x.length ≤ maxLen) := Opens.slice Try.underlying28 (by kernel_rfl) opens5
end Go.Proofs.Yteaelhdcmnhcbaa.SFnFramed
