-- laid by a program of this session (wip/lay/lay.py); Lean checks it
import Derived.Test.YtodehmbgcncnhaaPFnExactSettleUpx1
import Derived.Test.YtodehmbgcncnhaaOpen
namespace Go.Proofs.Ytodehmbgcncnhaa.SFnExactSettleUp
open Go.RowKit Go.WideShapes Go.Proofs.Ytodehmbgcncnhaa.PFnExactSettleUp Go.Proofs.Ytodehmbgcncnhaa.Open Go.Proofs.YtodehmbgcncnhaaW.PrintWords Go.Proofs.YtodehmbgcncnhaaW.PrintLast
set_option linter.unusedVariables false
/-- The one statement in plain Lean. -/
def Pure : Prop := ∀ (a0_0 : Int) (a0_1 : Int) (a1 : Int) (a2 : Int) , ((Lit.int .i64 a0_0).wf = true) → ((Lit.int .i64 a0_1).wf = true) → ((Lit.int .i64 a1).wf = true) → ((Lit.int .i64 a2).wf = true) → laws_FnExactSettleUp.f a0_0 a0_1 a1 a2 = some true
theorem opens3 : Opens Try.prog 3 (Kd.int .i64) (fun x => (Lit.int .i64 x).wf = true) := Opens.int Try.underlying3 (by kernel_rfl)
theorem opensR23 : Opens Try.prog 23 (Kd.pair (Kd.int .i64) (Kd.int .i64)) (fun x => ((Lit.int .i64 x.1).wf = true) ∧ ((Lit.int .i64 x.2).wf = true)) := by
  refine ⟨by kernel_rfl, fun {H enc w spare held fuel cs x} h => ?_⟩
  obtain ⟨xs, n, rfl, rfl, hl, hn, hf⟩ := DataW.trod_struct Try.underlying23 h
  have hl : cs.length = 2 := hl
  have hn : xs.length = 2 := hn
  obtain ⟨v0, k0, w0⟩ := field_of (o := 0) (n := 1) (i := 0) opens3 (hf 0 _ rfl) (by omega)
  obtain ⟨v1, k1, w1⟩ := field_of (o := 1) (n := 1) (i := 1) opens3 (hf 1 _ rfl) (by omega)
  exact ⟨(v0, v1), K_start (K_cons 0 1 1 rfl k0 (K_last 1 1 hl k1)), ⟨w0, w1⟩⟩
end Go.Proofs.Ytodehmbgcncnhaa.SFnExactSettleUp
