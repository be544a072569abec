-- laid by a program of this session (wip/lay/lay.py); Lean checks it
import Derived.Test.YtbgdmbjipladoaaPFnTwicex9
import Derived.Test.YtbgdmbjipladoaaVFnTwiceVFnTwiceOpen
namespace Go.Proofs.Ytbgdmbjipladoaa.SFnTwice
open Go.RowKit Go.WideShapes Go.Proofs.Ytbgdmbjipladoaa.PFnTwice Go.Proofs.Ytbgdmbjipladoaa.Open Go.Proofs.YtbgdmbjipladoaaW.PrintWords Go.Proofs.YtbgdmbjipladoaaW.PrintLast
set_option linter.unusedVariables false
set_option maxRecDepth 100000
/-- The one statement in plain Lean. -/
def Pure : Prop := ∀ (l0 : List (Int)) , ((∀ y ∈ l0, (Lit.int .u8 y).wf = true) ∧ l0.length ≤ maxLen) → ∃ k, laws_FnTwice.f k l0 = some true
theorem opens5 : Opens Try.prog 5 (Kd.int .u8) (fun x => (Lit.int .u8 x).wf = true) := Opens.int Try.underlying5 (by kernel_rfl)
theorem opens57 : Opens Try.prog 57 (Kd.slice 5 (Kd.int .u8)) (fun x => (∀ y ∈ x, (Lit.int .u8 y).wf = true) ∧ x.length ≤ maxLen) := Opens.slice Try.underlying57 (by kernel_rfl) opens5
end Go.Proofs.Ytbgdmbjipladoaa.SFnTwice
