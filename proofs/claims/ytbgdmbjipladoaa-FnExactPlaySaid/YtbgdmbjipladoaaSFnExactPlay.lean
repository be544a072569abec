-- laid by a program of this session (wip/lay/lay.py); Lean checks it
import Derived.Test.YtbgdmbjipladoaaPFnExactPlayx13
import Derived.Test.YtbgdmbjipladoaaVFnExactPlayOpen
namespace Go.Proofs.Ytbgdmbjipladoaa.SFnExactPlay
open Go.RowKit Go.WideShapes Go.Proofs.Ytbgdmbjipladoaa.PFnExactPlay Go.Proofs.Ytbgdmbjipladoaa.Open Go.Proofs.YtbgdmbjipladoaaW.PrintWords Go.Proofs.YtbgdmbjipladoaaW.PrintLast
set_option linter.unusedVariables false
def wf39 (x : S39) : Prop := ((Lit.int .u8 x.f0).wf = true) ∧ ((Lit.int .u8 x.f1).wf = true) ∧ ((Lit.int .u8 x.f2).wf = true) ∧ ((Lit.int .u8 x.f3).wf = true) ∧ ((Lit.int .u8 x.f4).wf = true) ∧ ((Lit.int .u8 x.f5).wf = true) ∧ ((Lit.int .u8 x.f6).wf = true) ∧ ((Lit.int .u8 x.f7).wf = true) ∧ ((Lit.int .u8 x.f8).wf = true) ∧ ((Lit.int .u8 x.f9).wf = true) ∧ ((Lit.int .u8 x.f10).wf = true) ∧ ((Lit.int .u8 x.f11).wf = true) ∧ ((Lit.int .u8 x.f12).wf = true) ∧ ((Lit.int .u8 x.f13).wf = true) ∧ ((Lit.int .u8 x.f14).wf = true) ∧ ((Lit.int .u8 x.f15).wf = true)
def wf41 (x : S41) : Prop := ((Lit.int .i64 x.f0).wf = true) ∧ ((Lit.int .i64 x.f1).wf = true) ∧ (wf39 x.f2)
set_option maxRecDepth 100000
/-- The one statement in plain Lean. -/
def Pure : Prop := ∀ (a0_0 : Int) (a0_1 : Int) (a0_2 : Int) (a0_3 : Int) (a0_4 : Int) (l0_5 : List (S41)) , ((Lit.int .i64 a0_0).wf = true) → ((Lit.int .i64 a0_1).wf = true) → ((Lit.int .i64 a0_2).wf = true) → ((Lit.int .i64 a0_3).wf = true) → ((Lit.int .i64 a0_4).wf = true) → ((∀ y ∈ l0_5, wf41 y) ∧ l0_5.length ≤ maxLen) → ∃ k, laws_FnExactPlay.f k a0_0 a0_1 a0_2 a0_3 a0_4 l0_5 = some true
theorem opens3 : Opens Try.prog 3 (Kd.int .i64) (fun x => (Lit.int .i64 x).wf = true) := Opens.int Try.underlying3 (by kernel_rfl)
theorem opens5 : Opens Try.prog 5 (Kd.int .u8) (fun x => (Lit.int .u8 x).wf = true) := Opens.int Try.underlying5 (by kernel_rfl)
theorem opensR39 : Opens Try.prog 39 (Kd.pair (Kd.int .u8) (Kd.pair (Kd.int .u8) (Kd.pair (Kd.int .u8) (Kd.pair (Kd.int .u8) (Kd.pair (Kd.int .u8) (Kd.pair (Kd.int .u8) (Kd.pair (Kd.int .u8) (Kd.pair (Kd.int .u8) (Kd.pair (Kd.int .u8) (Kd.pair (Kd.int .u8) (Kd.pair (Kd.int .u8) (Kd.pair (Kd.int .u8) (Kd.pair (Kd.int .u8) (Kd.pair (Kd.int .u8) (Kd.pair (Kd.int .u8) (Kd.int .u8)))))))))))))))) (fun x => ((Lit.int .u8 x.1).wf = true) ∧ ((Lit.int .u8 x.2.1).wf = true) ∧ ((Lit.int .u8 x.2.2.1).wf = true) ∧ ((Lit.int .u8 x.2.2.2.1).wf = true) ∧ ((Lit.int .u8 x.2.2.2.2.1).wf = true) ∧ ((Lit.int .u8 x.2.2.2.2.2.1).wf = true) ∧ ((Lit.int .u8 x.2.2.2.2.2.2.1).wf = true) ∧ ((Lit.int .u8 x.2.2.2.2.2.2.2.1).wf = true) ∧ ((Lit.int .u8 x.2.2.2.2.2.2.2.2.1).wf = true) ∧ ((Lit.int .u8 x.2.2.2.2.2.2.2.2.2.1).wf = true) ∧ ((Lit.int .u8 x.2.2.2.2.2.2.2.2.2.2.1).wf = true) ∧ ((Lit.int .u8 x.2.2.2.2.2.2.2.2.2.2.2.1).wf = true) ∧ ((Lit.int .u8 x.2.2.2.2.2.2.2.2.2.2.2.2.1).wf = true) ∧ ((Lit.int .u8 x.2.2.2.2.2.2.2.2.2.2.2.2.2.1).wf = true) ∧ ((Lit.int .u8 x.2.2.2.2.2.2.2.2.2.2.2.2.2.2.1).wf = true) ∧ ((Lit.int .u8 x.2.2.2.2.2.2.2.2.2.2.2.2.2.2.2).wf = true)) := by
  refine ⟨by kernel_rfl, fun {H enc w spare held fuel cs x} h => ?_⟩
  obtain ⟨xs, n, rfl, rfl, hl, hn, hf⟩ := DataW.trod_array Try.underlying39 h
  have hl : cs.length = 16 := hl
  have hn : xs.length = 16 := hn
  obtain ⟨v0, k0, w0⟩ := field_of (o := 0) (n := 1) (i := 0) opens5 (hf 0 (by decide)) (by omega)
  obtain ⟨v1, k1, w1⟩ := field_of (o := 1) (n := 1) (i := 1) opens5 (hf 1 (by decide)) (by omega)
  obtain ⟨v2, k2, w2⟩ := field_of (o := 2) (n := 1) (i := 2) opens5 (hf 2 (by decide)) (by omega)
  obtain ⟨v3, k3, w3⟩ := field_of (o := 3) (n := 1) (i := 3) opens5 (hf 3 (by decide)) (by omega)
  obtain ⟨v4, k4, w4⟩ := field_of (o := 4) (n := 1) (i := 4) opens5 (hf 4 (by decide)) (by omega)
  obtain ⟨v5, k5, w5⟩ := field_of (o := 5) (n := 1) (i := 5) opens5 (hf 5 (by decide)) (by omega)
  obtain ⟨v6, k6, w6⟩ := field_of (o := 6) (n := 1) (i := 6) opens5 (hf 6 (by decide)) (by omega)
  obtain ⟨v7, k7, w7⟩ := field_of (o := 7) (n := 1) (i := 7) opens5 (hf 7 (by decide)) (by omega)
  obtain ⟨v8, k8, w8⟩ := field_of (o := 8) (n := 1) (i := 8) opens5 (hf 8 (by decide)) (by omega)
  obtain ⟨v9, k9, w9⟩ := field_of (o := 9) (n := 1) (i := 9) opens5 (hf 9 (by decide)) (by omega)
  obtain ⟨v10, k10, w10⟩ := field_of (o := 10) (n := 1) (i := 10) opens5 (hf 10 (by decide)) (by omega)
  obtain ⟨v11, k11, w11⟩ := field_of (o := 11) (n := 1) (i := 11) opens5 (hf 11 (by decide)) (by omega)
  obtain ⟨v12, k12, w12⟩ := field_of (o := 12) (n := 1) (i := 12) opens5 (hf 12 (by decide)) (by omega)
  obtain ⟨v13, k13, w13⟩ := field_of (o := 13) (n := 1) (i := 13) opens5 (hf 13 (by decide)) (by omega)
  obtain ⟨v14, k14, w14⟩ := field_of (o := 14) (n := 1) (i := 14) opens5 (hf 14 (by decide)) (by omega)
  obtain ⟨v15, k15, w15⟩ := field_of (o := 15) (n := 1) (i := 15) opens5 (hf 15 (by decide)) (by omega)
  exact ⟨(v0, v1, v2, v3, v4, v5, v6, v7, v8, v9, v10, v11, v12, v13, v14, v15), K_start (K_cons 0 1 1 rfl k0 (K_cons 1 1 2 rfl k1 (K_cons 2 1 3 rfl k2 (K_cons 3 1 4 rfl k3 (K_cons 4 1 5 rfl k4 (K_cons 5 1 6 rfl k5 (K_cons 6 1 7 rfl k6 (K_cons 7 1 8 rfl k7 (K_cons 8 1 9 rfl k8 (K_cons 9 1 10 rfl k9 (K_cons 10 1 11 rfl k10 (K_cons 11 1 12 rfl k11 (K_cons 12 1 13 rfl k12 (K_cons 13 1 14 rfl k13 (K_cons 14 1 15 rfl k14 (K_last 15 1 hl k15)))))))))))))))), ⟨w0, w1, w2, w3, w4, w5, w6, w7, w8, w9, w10, w11, w12, w13, w14, w15⟩⟩
theorem opens39 : Opens Try.prog 39 k39 wf39 := Opens.iso opensR39 (fun x : S39 => (x.f0, x.f1, x.f2, x.f3, x.f4, x.f5, x.f6, x.f7, x.f8, x.f9, x.f10, x.f11, x.f12, x.f13, x.f14, x.f15)) (fun p => ⟨p.1, p.2.1, p.2.2.1, p.2.2.2.1, p.2.2.2.2.1, p.2.2.2.2.2.1, p.2.2.2.2.2.2.1, p.2.2.2.2.2.2.2.1, p.2.2.2.2.2.2.2.2.1, p.2.2.2.2.2.2.2.2.2.1, p.2.2.2.2.2.2.2.2.2.2.1, p.2.2.2.2.2.2.2.2.2.2.2.1, p.2.2.2.2.2.2.2.2.2.2.2.2.1, p.2.2.2.2.2.2.2.2.2.2.2.2.2.1, p.2.2.2.2.2.2.2.2.2.2.2.2.2.2.1, p.2.2.2.2.2.2.2.2.2.2.2.2.2.2.2⟩) (fun _ => rfl)
theorem opensR41 : Opens Try.prog 41 (Kd.pair (Kd.int .i64) (Kd.pair (Kd.int .i64) k39)) (fun x => ((Lit.int .i64 x.1).wf = true) ∧ ((Lit.int .i64 x.2.1).wf = true) ∧ (wf39 x.2.2)) := by
  refine ⟨by kernel_rfl, fun {H enc w spare held fuel cs x} h => ?_⟩
  obtain ⟨xs, n, rfl, rfl, hl, hn, hf⟩ := DataW.trod_struct Try.underlying41 h
  have hl : cs.length = 18 := hl
  have hn : xs.length = 3 := hn
  obtain ⟨v0, k0, w0⟩ := field_of (o := 0) (n := 1) (i := 0) opens3 (hf 0 _ rfl) (by omega)
  obtain ⟨v1, k1, w1⟩ := field_of (o := 1) (n := 1) (i := 1) opens3 (hf 1 _ rfl) (by omega)
  obtain ⟨v2, k2, w2⟩ := field_of (o := 2) (n := 16) (i := 2) opens39 (hf 2 _ rfl) (by omega)
  exact ⟨(v0, v1, v2), K_start (K_cons 0 1 1 rfl k0 (K_cons 1 1 2 rfl k1 (K_last 2 16 hl k2))), ⟨w0, w1, w2⟩⟩
theorem opens41 : Opens Try.prog 41 k41 wf41 := Opens.iso opensR41 (fun x : S41 => (x.f0, x.f1, x.f2)) (fun p => ⟨p.1, p.2.1, p.2.2⟩) (fun _ => rfl)
theorem opens22 : Opens Try.prog 22 (Kd.slice 41 k41) (fun x => (∀ y ∈ x, wf41 y) ∧ x.length ≤ maxLen) := Opens.slice Try.underlying22 (by kernel_rfl) opens41
theorem opensR31 : Opens Try.prog 31 (Kd.pair (Kd.int .i64) (Kd.pair (Kd.int .i64) (Kd.pair (Kd.int .i64) (Kd.pair (Kd.int .i64) (Kd.pair (Kd.int .i64) (Kd.slice 41 k41)))))) (fun x => ((Lit.int .i64 x.1).wf = true) ∧ ((Lit.int .i64 x.2.1).wf = true) ∧ ((Lit.int .i64 x.2.2.1).wf = true) ∧ ((Lit.int .i64 x.2.2.2.1).wf = true) ∧ ((Lit.int .i64 x.2.2.2.2.1).wf = true) ∧ ((∀ y ∈ x.2.2.2.2.2, wf41 y) ∧ x.2.2.2.2.2.length ≤ maxLen)) := by
  refine ⟨by kernel_rfl, fun {H enc w spare held fuel cs x} h => ?_⟩
  obtain ⟨xs, n, rfl, rfl, hl, hn, hf⟩ := DataW.trod_struct Try.underlying31 h
  have hl : cs.length = 6 := hl
  have hn : xs.length = 6 := hn
  obtain ⟨v0, k0, w0⟩ := field_of (o := 0) (n := 1) (i := 0) opens3 (hf 0 _ rfl) (by omega)
  obtain ⟨v1, k1, w1⟩ := field_of (o := 1) (n := 1) (i := 1) opens3 (hf 1 _ rfl) (by omega)
  obtain ⟨v2, k2, w2⟩ := field_of (o := 2) (n := 1) (i := 2) opens3 (hf 2 _ rfl) (by omega)
  obtain ⟨v3, k3, w3⟩ := field_of (o := 3) (n := 1) (i := 3) opens3 (hf 3 _ rfl) (by omega)
  obtain ⟨v4, k4, w4⟩ := field_of (o := 4) (n := 1) (i := 4) opens3 (hf 4 _ rfl) (by omega)
  obtain ⟨v5, k5, w5⟩ := field_of (o := 5) (n := 1) (i := 5) opens22 (hf 5 _ rfl) (by omega)
  exact ⟨(v0, v1, v2, v3, v4, v5), K_start (K_cons 0 1 1 rfl k0 (K_cons 1 1 2 rfl k1 (K_cons 2 1 3 rfl k2 (K_cons 3 1 4 rfl k3 (K_cons 4 1 5 rfl k4 (K_last 5 1 hl k5)))))), ⟨w0, w1, w2, w3, w4, w5⟩⟩
end Go.Proofs.Ytbgdmbjipladoaa.SFnExactPlay
