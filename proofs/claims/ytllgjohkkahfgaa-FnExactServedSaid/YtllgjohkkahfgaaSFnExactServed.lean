-- laid by a program of this session (wip/lay/lay.py); Lean checks it
import Derived.Test.YtllgjohkkahfgaaPFnExactServedx10
import Derived.Test.YtllgjohkkahfgaaVFnExactServedOpen
namespace Go.Proofs.Ytllgjohkkahfgaa.SFnExactServed
open Go.RowKit Go.WideShapes Go.Proofs.Ytllgjohkkahfgaa.PFnExactServed Go.Proofs.Ytllgjohkkahfgaa.Open Go.Proofs.YtllgjohkkahfgaaW.PrintWords Go.Proofs.YtllgjohkkahfgaaW.PrintLast
set_option linter.unusedVariables false
def wf103 (x : S103) : Prop := ((Lit.int .i64 x.f0).wf = true) ∧ ((Lit.int .i64 x.f1).wf = true) ∧ ((Lit.int .i64 x.f2).wf = true)
def wf105 (x : S105) : Prop := ((Lit.int .i64 x.f0).wf = true) ∧ ((Lit.int .i64 x.f1).wf = true) ∧ ((Lit.int .i64 x.f2).wf = true) ∧ ((Lit.int .i64 x.f3).wf = true)
set_option maxRecDepth 100000
/-- The one statement in plain Lean. -/
def Pure : Prop := ∀ (a0_0 : Int) (l0_1 : List (S103)) (l0_2 : List (S105)) (a0_3 : Int) (a1 : Int) , ((Lit.int .i64 a0_0).wf = true) → ((∀ y ∈ l0_1, wf103 y) ∧ l0_1.length ≤ maxLen) → ((∀ y ∈ l0_2, wf105 y) ∧ l0_2.length ≤ maxLen) → ((Lit.int .i64 a0_3).wf = true) → ((Lit.int .i64 a1).wf = true) → ∃ k, laws_FnExactServed.f k a0_0 l0_1 l0_2 a0_3 a1 = some true
theorem opens3 : Opens Try.prog 3 (Kd.int .i64) (fun x => (Lit.int .i64 x).wf = true) := Opens.int Try.underlying3 (by kernel_rfl)
theorem opensR103 : Opens Try.prog 103 (Kd.pair (Kd.int .i64) (Kd.pair (Kd.int .i64) (Kd.int .i64))) (fun x => ((Lit.int .i64 x.1).wf = true) ∧ ((Lit.int .i64 x.2.1).wf = true) ∧ ((Lit.int .i64 x.2.2).wf = true)) := by
  refine ⟨by kernel_rfl, fun {H enc w spare held fuel cs x} h => ?_⟩
  obtain ⟨xs, n, rfl, rfl, hl, hn, hf⟩ := DataW.trod_struct Try.underlying103 h
  have hl : cs.length = 3 := hl
  have hn : xs.length = 3 := hn
  obtain ⟨v0, k0, w0⟩ := field_of (o := 0) (n := 1) (i := 0) opens3 (hf 0 _ rfl) (by omega)
  obtain ⟨v1, k1, w1⟩ := field_of (o := 1) (n := 1) (i := 1) opens3 (hf 1 _ rfl) (by omega)
  obtain ⟨v2, k2, w2⟩ := field_of (o := 2) (n := 1) (i := 2) opens3 (hf 2 _ rfl) (by omega)
  exact ⟨(v0, v1, v2), K_start (K_cons 0 1 1 rfl k0 (K_cons 1 1 2 rfl k1 (K_last 2 1 hl k2))), ⟨w0, w1, w2⟩⟩
theorem opens103 : Opens Try.prog 103 k103 wf103 := Opens.iso opensR103 (fun x : S103 => (x.f0, x.f1, x.f2)) (fun p => ⟨p.1, p.2.1, p.2.2⟩) (fun _ => rfl)
theorem opens22 : Opens Try.prog 22 (Kd.slice 103 k103) (fun x => (∀ y ∈ x, wf103 y) ∧ x.length ≤ maxLen) := Opens.slice Try.underlying22 (by kernel_rfl) opens103
theorem opensR105 : Opens Try.prog 105 (Kd.pair (Kd.int .i64) (Kd.pair (Kd.int .i64) (Kd.pair (Kd.int .i64) (Kd.int .i64)))) (fun x => ((Lit.int .i64 x.1).wf = true) ∧ ((Lit.int .i64 x.2.1).wf = true) ∧ ((Lit.int .i64 x.2.2.1).wf = true) ∧ ((Lit.int .i64 x.2.2.2).wf = true)) := by
  refine ⟨by kernel_rfl, fun {H enc w spare held fuel cs x} h => ?_⟩
  obtain ⟨xs, n, rfl, rfl, hl, hn, hf⟩ := DataW.trod_struct Try.underlying105 h
  have hl : cs.length = 4 := hl
  have hn : xs.length = 4 := hn
  obtain ⟨v0, k0, w0⟩ := field_of (o := 0) (n := 1) (i := 0) opens3 (hf 0 _ rfl) (by omega)
  obtain ⟨v1, k1, w1⟩ := field_of (o := 1) (n := 1) (i := 1) opens3 (hf 1 _ rfl) (by omega)
  obtain ⟨v2, k2, w2⟩ := field_of (o := 2) (n := 1) (i := 2) opens3 (hf 2 _ rfl) (by omega)
  obtain ⟨v3, k3, w3⟩ := field_of (o := 3) (n := 1) (i := 3) opens3 (hf 3 _ rfl) (by omega)
  exact ⟨(v0, v1, v2, v3), K_start (K_cons 0 1 1 rfl k0 (K_cons 1 1 2 rfl k1 (K_cons 2 1 3 rfl k2 (K_last 3 1 hl k3)))), ⟨w0, w1, w2, w3⟩⟩
theorem opens105 : Opens Try.prog 105 k105 wf105 := Opens.iso opensR105 (fun x : S105 => (x.f0, x.f1, x.f2, x.f3)) (fun p => ⟨p.1, p.2.1, p.2.2.1, p.2.2.2⟩) (fun _ => rfl)
theorem opens23 : Opens Try.prog 23 (Kd.slice 105 k105) (fun x => (∀ y ∈ x, wf105 y) ∧ x.length ≤ maxLen) := Opens.slice Try.underlying23 (by kernel_rfl) opens105
theorem opensR25 : Opens Try.prog 25 (Kd.pair (Kd.int .i64) (Kd.pair (Kd.slice 103 k103) (Kd.pair (Kd.slice 105 k105) (Kd.int .i64)))) (fun x => ((Lit.int .i64 x.1).wf = true) ∧ ((∀ y ∈ x.2.1, wf103 y) ∧ x.2.1.length ≤ maxLen) ∧ ((∀ y ∈ x.2.2.1, wf105 y) ∧ x.2.2.1.length ≤ maxLen) ∧ ((Lit.int .i64 x.2.2.2).wf = true)) := by
  refine ⟨by kernel_rfl, fun {H enc w spare held fuel cs x} h => ?_⟩
  obtain ⟨xs, n, rfl, rfl, hl, hn, hf⟩ := DataW.trod_struct Try.underlying25 h
  have hl : cs.length = 4 := hl
  have hn : xs.length = 4 := hn
  obtain ⟨v0, k0, w0⟩ := field_of (o := 0) (n := 1) (i := 0) opens3 (hf 0 _ rfl) (by omega)
  obtain ⟨v1, k1, w1⟩ := field_of (o := 1) (n := 1) (i := 1) opens22 (hf 1 _ rfl) (by omega)
  obtain ⟨v2, k2, w2⟩ := field_of (o := 2) (n := 1) (i := 2) opens23 (hf 2 _ rfl) (by omega)
  obtain ⟨v3, k3, w3⟩ := field_of (o := 3) (n := 1) (i := 3) opens3 (hf 3 _ rfl) (by omega)
  exact ⟨(v0, v1, v2, v3), K_start (K_cons 0 1 1 rfl k0 (K_cons 1 1 2 rfl k1 (K_cons 2 1 3 rfl k2 (K_last 3 1 hl k3)))), ⟨w0, w1, w2, w3⟩⟩
end Go.Proofs.Ytllgjohkkahfgaa.SFnExactServed
