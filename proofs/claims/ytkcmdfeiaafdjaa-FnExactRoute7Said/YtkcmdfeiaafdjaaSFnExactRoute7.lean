-- laid by a program of this session (wip/lay/lay.py); Lean checks it
import Derived.Test.YtkcmdfeiaafdjaaPFnExactRoute7x10
import Derived.Test.YtkcmdfeiaafdjaaVFnExactRoute7Open
namespace Go.Proofs.Ytkcmdfeiaafdjaa.SFnExactRoute7
open Go.RowKit Go.WideShapes Go.Proofs.Ytkcmdfeiaafdjaa.PFnExactRoute7 Go.Proofs.Ytkcmdfeiaafdjaa.Open Go.Proofs.YtkcmdfeiaafdjaaW.PrintWords Go.Proofs.YtkcmdfeiaafdjaaW.PrintLast
set_option linter.unusedVariables false
def wf106 (x : S106) : Prop := ((Lit.int .i64 x.f0).wf = true) ∧ ((Lit.int .i64 x.f1).wf = true)
def wf61 (x : S61) : Prop := (True) ∧ (True) ∧ ((∀ y ∈ x.f2, wf106 y) ∧ x.f2.length ≤ maxLen)
set_option maxRecDepth 100000
/-- The one statement in plain Lean. -/
def Pure : Prop := ∀ (l0 : List (S61)) (a1 : Int) (a2 : Int) , ((∀ y ∈ l0, wf61 y) ∧ l0.length ≤ maxLen) → ((Lit.int .i64 a1).wf = true) → ((Lit.int .i64 a2).wf = true) → ∃ k, laws_FnExactRoute7.f k l0 a1 a2 = some true
theorem opens4 : Opens Try.prog 4 Kd.bool (fun x => True) := Opens.bool Try.underlying4 (by kernel_rfl)
theorem opens3 : Opens Try.prog 3 (Kd.int .i64) (fun x => (Lit.int .i64 x).wf = true) := Opens.int Try.underlying3 (by kernel_rfl)
theorem opensR106 : Opens Try.prog 106 (Kd.pair (Kd.int .i64) (Kd.int .i64)) (fun x => ((Lit.int .i64 x.1).wf = true) ∧ ((Lit.int .i64 x.2).wf = true)) := by
  refine ⟨by kernel_rfl, fun {H enc w spare held fuel cs x} h => ?_⟩
  obtain ⟨xs, n, rfl, rfl, hl, hn, hf⟩ := DataW.trod_struct Try.underlying106 h
  have hl : cs.length = 2 := hl
  have hn : xs.length = 2 := hn
  obtain ⟨v0, k0, w0⟩ := field_of (o := 0) (n := 1) (i := 0) opens3 (hf 0 _ rfl) (by omega)
  obtain ⟨v1, k1, w1⟩ := field_of (o := 1) (n := 1) (i := 1) opens3 (hf 1 _ rfl) (by omega)
  exact ⟨(v0, v1), K_start (K_cons 0 1 1 rfl k0 (K_last 1 1 hl k1)), ⟨w0, w1⟩⟩
theorem opens106 : Opens Try.prog 106 k106 wf106 := Opens.iso opensR106 (fun x : S106 => (x.f0, x.f1)) (fun p => ⟨p.1, p.2⟩) (fun _ => rfl)
theorem opens59 : Opens Try.prog 59 (Kd.slice 106 k106) (fun x => (∀ y ∈ x, wf106 y) ∧ x.length ≤ maxLen) := Opens.slice Try.underlying59 (by kernel_rfl) opens106
theorem opensR61 : Opens Try.prog 61 (Kd.pair Kd.bool (Kd.pair Kd.bool (Kd.slice 106 k106))) (fun x => (True) ∧ (True) ∧ ((∀ y ∈ x.2.2, wf106 y) ∧ x.2.2.length ≤ maxLen)) := by
  refine ⟨by kernel_rfl, fun {H enc w spare held fuel cs x} h => ?_⟩
  obtain ⟨xs, n, rfl, rfl, hl, hn, hf⟩ := DataW.trod_struct Try.underlying61 h
  have hl : cs.length = 3 := hl
  have hn : xs.length = 3 := hn
  obtain ⟨v0, k0, w0⟩ := field_of (o := 0) (n := 1) (i := 0) opens4 (hf 0 _ rfl) (by omega)
  obtain ⟨v1, k1, w1⟩ := field_of (o := 1) (n := 1) (i := 1) opens4 (hf 1 _ rfl) (by omega)
  obtain ⟨v2, k2, w2⟩ := field_of (o := 2) (n := 1) (i := 2) opens59 (hf 2 _ rfl) (by omega)
  exact ⟨(v0, v1, v2), K_start (K_cons 0 1 1 rfl k0 (K_cons 1 1 2 rfl k1 (K_last 2 1 hl k2))), ⟨w0, w1, w2⟩⟩
theorem opens61 : Opens Try.prog 61 k61 wf61 := Opens.iso opensR61 (fun x : S61 => (x.f0, x.f1, x.f2)) (fun p => ⟨p.1, p.2.1, p.2.2⟩) (fun _ => rfl)
theorem opens22 : Opens Try.prog 22 (Kd.slice 61 k61) (fun x => (∀ y ∈ x, wf61 y) ∧ x.length ≤ maxLen) := Opens.slice Try.underlying22 (by kernel_rfl) opens61
end Go.Proofs.Ytkcmdfeiaafdjaa.SFnExactRoute7
