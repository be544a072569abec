-- laid by a program of this session (wip/lay/lay.py); Lean checks it
import Derived.Test.YtodehmbgcncnhaaPFnReservedx12
import Derived.Test.YtodehmbgcncnhaaVFnReservedOpen
namespace Go.Proofs.Ytodehmbgcncnhaa.SFnReserved
open Go.RowKit Go.WideShapes Go.Proofs.Ytodehmbgcncnhaa.PFnReserved Go.Proofs.Ytodehmbgcncnhaa.Open Go.Proofs.YtodehmbgcncnhaaW.PrintWords Go.Proofs.YtodehmbgcncnhaaW.PrintLast
set_option linter.unusedVariables false
/-- The one statement in plain Lean. -/
def Pure : Prop := ∀ (l0 : List (Int)) , ((∀ y ∈ l0, (Lit.int .u8 y).wf = true) ∧ l0.length ≤ maxLen) → ∃ k, laws_FnReserved.f k l0 = some true
theorem opens5 : Opens Try.prog 5 (Kd.int .u8) (fun x => (Lit.int .u8 x).wf = true) := Opens.int Try.underlying5 (by kernel_rfl)
theorem opens54 : Opens Try.prog 54 (Kd.slice 5 (Kd.int .u8)) (fun x => (∀ y ∈ x, (Lit.int .u8 y).wf = true) ∧ x.length ≤ maxLen) := Opens.slice Try.underlying54 (by kernel_rfl) opens5
end Go.Proofs.Ytodehmbgcncnhaa.SFnReserved
