-- laid by a program of this session (wip/lay/lay.py); Lean checks it
import Derived.Test.YtplhdplebbhakaaPFnExactSubSamplex0
import Derived.Test.YtplhdplebbhakaaOpen
namespace Go.Proofs.Ytplhdplebbhakaa.SFnExactSubSample
open Go.RowKit Go.WideShapes Go.Proofs.Ytplhdplebbhakaa.PFnExactSubSample Go.Proofs.Ytplhdplebbhakaa.Open Go.Proofs.YtplhdplebbhakaaW.PrintWords Go.Proofs.YtplhdplebbhakaaW.PrintLast
set_option linter.unusedVariables false
/-- The one statement in plain Lean. -/
def Pure : Prop := ∀ (a0_0 : Nat) (a0_1 : Nat) (a1_0 : Nat) (a1_1 : Nat) , ((Lit.float .f32 a0_0).wf = true) → ((Lit.float .f32 a0_1).wf = true) → ((Lit.float .f32 a1_0).wf = true) → ((Lit.float .f32 a1_1).wf = true) → laws_FnExactSubSample.f a0_0 a0_1 a1_0 a1_1 = some true
theorem opens22 : Opens Try.prog 22 (Kd.scalar (Value.float .f32) (fun _ => rfl)) (fun x => (Lit.float .f32 x).wf = true) := Opens.float Try.underlying22 (by kernel_rfl)
theorem opensR24 : Opens Try.prog 24 (Kd.pair (Kd.scalar (Value.float .f32) (fun _ => rfl)) (Kd.scalar (Value.float .f32) (fun _ => rfl))) (fun x => ((Lit.float .f32 x.1).wf = true) ∧ ((Lit.float .f32 x.2).wf = true)) := by
  refine ⟨by kernel_rfl, fun {H enc w spare held fuel cs x} h => ?_⟩
  obtain ⟨xs, n, rfl, rfl, hl, hn, hf⟩ := DataW.trod_struct Try.underlying24 h
  have hl : cs.length = 2 := hl
  have hn : xs.length = 2 := hn
  obtain ⟨v0, k0, w0⟩ := field_of (o := 0) (n := 1) (i := 0) opens22 (hf 0 _ rfl) (by omega)
  obtain ⟨v1, k1, w1⟩ := field_of (o := 1) (n := 1) (i := 1) opens22 (hf 1 _ rfl) (by omega)
  exact ⟨(v0, v1), K_start (K_cons 0 1 1 rfl k0 (K_last 1 1 hl k1)), ⟨w0, w1⟩⟩
end Go.Proofs.Ytplhdplebbhakaa.SFnExactSubSample
