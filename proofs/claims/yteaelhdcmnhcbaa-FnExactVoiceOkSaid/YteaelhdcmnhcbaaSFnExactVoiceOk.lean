-- laid by a program of this session (wip/lay/lay.py); Lean checks it
import Derived.Test.YteaelhdcmnhcbaaPFnExactVoiceOkx1
import Derived.Test.YteaelhdcmnhcbaaOpen
namespace Go.Proofs.Yteaelhdcmnhcbaa.SFnExactVoiceOk
open Go.RowKit Go.WideShapes Go.Proofs.Yteaelhdcmnhcbaa.PFnExactVoiceOk Go.Proofs.Yteaelhdcmnhcbaa.Open Go.Proofs.YteaelhdcmnhcbaaW.PrintWords Go.Proofs.YteaelhdcmnhcbaaW.PrintLast
set_option linter.unusedVariables false
/-- The one statement in plain Lean. -/
def Pure : Prop := ∀ (l0 : List (Int)) , ((∀ y ∈ l0, (Lit.int .i64 y).wf = true) ∧ l0.length ≤ maxLen) → ∃ k, laws_FnExactVoiceOk.f k l0 = some true
theorem opens3 : Opens Try.prog 3 (Kd.int .i64) (fun x => (Lit.int .i64 x).wf = true) := Opens.int Try.underlying3 (by kernel_rfl)
theorem opens24 : Opens Try.prog 24 (Kd.slice 3 (Kd.int .i64)) (fun x => (∀ y ∈ x, (Lit.int .i64 y).wf = true) ∧ x.length ≤ maxLen) := Opens.slice Try.underlying24 (by kernel_rfl) opens3
end Go.Proofs.Yteaelhdcmnhcbaa.SFnExactVoiceOk
