-- laid by a program of this session (wip/lay/lay.py); Lean checks it
import Derived.Test.YteaelhdcmnhcbaaPFnExactFrameOfx8
import Derived.Test.YteaelhdcmnhcbaaOpen
namespace Go.Proofs.Yteaelhdcmnhcbaa.SFnExactFrameOf
open Go.RowKit Go.WideShapes Go.Proofs.Yteaelhdcmnhcbaa.PFnExactFrameOf Go.Proofs.Yteaelhdcmnhcbaa.Open Go.Proofs.YteaelhdcmnhcbaaW.PrintWords Go.Proofs.YteaelhdcmnhcbaaW.PrintLast
set_option linter.unusedVariables false
set_option maxRecDepth 100000
/-- The one statement in plain Lean. -/
def Pure : Prop := ∀ (a0_0 : Int) (a0_1 : Int) (l1 : List (Int)) , ((Lit.int .i64 a0_0).wf = true) → ((Lit.int .i64 a0_1).wf = true) → ((∀ y ∈ l1, (Lit.int .i64 y).wf = true) ∧ l1.length ≤ maxLen) → ∃ k, laws_FnExactFrameOf.f k a0_0 a0_1 l1 = some true
theorem opens3 : Opens Try.prog 3 (Kd.int .i64) (fun x => (Lit.int .i64 x).wf = true) := Opens.int Try.underlying3 (by kernel_rfl)
theorem opensR33 : Opens Try.prog 33 (Kd.pair (Kd.int .i64) (Kd.int .i64)) (fun x => ((Lit.int .i64 x.1).wf = true) ∧ ((Lit.int .i64 x.2).wf = true)) := by
  refine ⟨by kernel_rfl, fun {H enc w spare held fuel cs x} h => ?_⟩
  obtain ⟨xs, n, rfl, rfl, hl, hn, hf⟩ := DataW.trod_struct Try.underlying33 h
  have hl : cs.length = 2 := hl
  have hn : xs.length = 2 := hn
  obtain ⟨v0, k0, w0⟩ := field_of (o := 0) (n := 1) (i := 0) opens3 (hf 0 _ rfl) (by omega)
  obtain ⟨v1, k1, w1⟩ := field_of (o := 1) (n := 1) (i := 1) opens3 (hf 1 _ rfl) (by omega)
  exact ⟨(v0, v1), K_start (K_cons 0 1 1 rfl k0 (K_last 1 1 hl k1)), ⟨w0, w1⟩⟩
theorem opens24 : Opens Try.prog 24 (Kd.slice 3 (Kd.int .i64)) (fun x => (∀ y ∈ x, (Lit.int .i64 y).wf = true) ∧ x.length ≤ maxLen) := Opens.slice Try.underlying24 (by kernel_rfl) opens3
end Go.Proofs.Yteaelhdcmnhcbaa.SFnExactFrameOf
