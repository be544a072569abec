-- laid by a program of this session (wip/lay/lay.py); Lean checks it
import Derived.Test.YtodehmbgcncnhaaPFnExactRatePartsx7
import Derived.Test.YtodehmbgcncnhaaOpen
namespace Go.Proofs.Ytodehmbgcncnhaa.SFnExactRateParts
open Go.RowKit Go.WideShapes Go.Proofs.Ytodehmbgcncnhaa.PFnExactRateParts Go.Proofs.Ytodehmbgcncnhaa.Open Go.Proofs.YtodehmbgcncnhaaW.PrintWords Go.Proofs.YtodehmbgcncnhaaW.PrintLast
set_option linter.unusedVariables false
def wf66 (x : S66) : Prop := ((Lit.int .i64 x.f0).wf = true) ∧ ((Lit.int .i64 x.f1).wf = true) ∧ ((Lit.int .i64 x.f2).wf = true) ∧ ((Lit.int .i64 x.f3).wf = true) ∧ ((Lit.int .i64 x.f4).wf = true)
/-- The one statement in plain Lean. -/
def Pure : Prop := ∀ (l0 : List (S66)) (a1 : Int) (a2 : Int) (a3 : Int) (l4 : List (Int)) , ((∀ y ∈ l0, wf66 y) ∧ l0.length ≤ maxLen) → ((Lit.int .i64 a1).wf = true) → ((Lit.int .i64 a2).wf = true) → ((Lit.int .i64 a3).wf = true) → ((∀ y ∈ l4, (Lit.int .i64 y).wf = true) ∧ l4.length ≤ maxLen) → ∃ k, laws_FnExactRateParts.f k l0 a1 a2 a3 l4 = some true
theorem opens3 : Opens Try.prog 3 (Kd.int .i64) (fun x => (Lit.int .i64 x).wf = true) := Opens.int Try.underlying3 (by kernel_rfl)
theorem opensR66 : Opens Try.prog 66 (Kd.pair (Kd.int .i64) (Kd.pair (Kd.int .i64) (Kd.pair (Kd.int .i64) (Kd.pair (Kd.int .i64) (Kd.int .i64))))) (fun x => ((Lit.int .i64 x.1).wf = true) ∧ ((Lit.int .i64 x.2.1).wf = true) ∧ ((Lit.int .i64 x.2.2.1).wf = true) ∧ ((Lit.int .i64 x.2.2.2.1).wf = true) ∧ ((Lit.int .i64 x.2.2.2.2).wf = true)) := by
  refine ⟨by kernel_rfl, fun {H enc w spare held fuel cs x} h => ?_⟩
  obtain ⟨xs, n, rfl, rfl, hl, hn, hf⟩ := DataW.trod_struct Try.underlying66 h
  have hl : cs.length = 5 := hl
  have hn : xs.length = 5 := hn
  obtain ⟨v0, k0, w0⟩ := field_of (o := 0) (n := 1) (i := 0) opens3 (hf 0 _ rfl) (by omega)
  obtain ⟨v1, k1, w1⟩ := field_of (o := 1) (n := 1) (i := 1) opens3 (hf 1 _ rfl) (by omega)
  obtain ⟨v2, k2, w2⟩ := field_of (o := 2) (n := 1) (i := 2) opens3 (hf 2 _ rfl) (by omega)
  obtain ⟨v3, k3, w3⟩ := field_of (o := 3) (n := 1) (i := 3) opens3 (hf 3 _ rfl) (by omega)
  obtain ⟨v4, k4, w4⟩ := field_of (o := 4) (n := 1) (i := 4) opens3 (hf 4 _ rfl) (by omega)
  exact ⟨(v0, v1, v2, v3, v4), K_start (K_cons 0 1 1 rfl k0 (K_cons 1 1 2 rfl k1 (K_cons 2 1 3 rfl k2 (K_cons 3 1 4 rfl k3 (K_last 4 1 hl k4))))), ⟨w0, w1, w2, w3, w4⟩⟩
theorem opens66 : Opens Try.prog 66 k66 wf66 := Opens.iso opensR66 (fun x : S66 => (x.f0, x.f1, x.f2, x.f3, x.f4)) (fun p => ⟨p.1, p.2.1, p.2.2.1, p.2.2.2.1, p.2.2.2.2⟩) (fun _ => rfl)
theorem opens30 : Opens Try.prog 30 (Kd.slice 66 k66) (fun x => (∀ y ∈ x, wf66 y) ∧ x.length ≤ maxLen) := Opens.slice Try.underlying30 (by kernel_rfl) opens66
theorem opens49 : Opens Try.prog 49 (Kd.slice 3 (Kd.int .i64)) (fun x => (∀ y ∈ x, (Lit.int .i64 y).wf = true) ∧ x.length ≤ maxLen) := Opens.slice Try.underlying49 (by kernel_rfl) opens3
end Go.Proofs.Ytodehmbgcncnhaa.SFnExactRateParts
