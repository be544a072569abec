-- laid by a program of this session (wip/lay/lay.py); Lean checks it
import Derived.Test.YteaelhdcmnhcbaaPFnExactOfFramex6
import Derived.Test.YteaelhdcmnhcbaaOpen
namespace Go.Proofs.Yteaelhdcmnhcbaa.SFnExactOfFrame
open Go.RowKit Go.WideShapes Go.Proofs.Yteaelhdcmnhcbaa.PFnExactOfFrame Go.Proofs.Yteaelhdcmnhcbaa.Open Go.Proofs.YteaelhdcmnhcbaaW.PrintWords Go.Proofs.YteaelhdcmnhcbaaW.PrintLast
set_option linter.unusedVariables false
/-- The one statement in plain Lean. -/
def Pure : Prop := ∀ (a0 : Int) (a1_0 : Int) (a1_1 : Int) (a1_2 : Int) (a1_3 : Int) (a1_4 : Int) (a1_5 : Int) (a1_6 : Int) (a1_7 : Int) (a1_8 : Int) (a1_9 : Int) (a1_10 : Int) (a1_11 : Int) (a1_12 : Int) (a1_13 : Int) (a1_14 : Int) (a1_15 : Int) , ((Lit.int .i64 a0).wf = true) → ((Lit.int .u8 a1_0).wf = true) → ((Lit.int .u8 a1_1).wf = true) → ((Lit.int .u8 a1_2).wf = true) → ((Lit.int .u8 a1_3).wf = true) → ((Lit.int .u8 a1_4).wf = true) → ((Lit.int .u8 a1_5).wf = true) → ((Lit.int .u8 a1_6).wf = true) → ((Lit.int .u8 a1_7).wf = true) → ((Lit.int .u8 a1_8).wf = true) → ((Lit.int .u8 a1_9).wf = true) → ((Lit.int .u8 a1_10).wf = true) → ((Lit.int .u8 a1_11).wf = true) → ((Lit.int .u8 a1_12).wf = true) → ((Lit.int .u8 a1_13).wf = true) → ((Lit.int .u8 a1_14).wf = true) → ((Lit.int .u8 a1_15).wf = true) → ∃ k, laws_FnExactOfFrame.f k a0 a1_0 a1_1 a1_2 a1_3 a1_4 a1_5 a1_6 a1_7 a1_8 a1_9 a1_10 a1_11 a1_12 a1_13 a1_14 a1_15 = some true
theorem opens3 : Opens Try.prog 3 (Kd.int .i64) (fun x => (Lit.int .i64 x).wf = true) := Opens.int Try.underlying3 (by kernel_rfl)
theorem opens5 : Opens Try.prog 5 (Kd.int .u8) (fun x => (Lit.int .u8 x).wf = true) := Opens.int Try.underlying5 (by kernel_rfl)
theorem opensR41 : Opens Try.prog 41 (Kd.pair (Kd.int .u8) (Kd.pair (Kd.int .u8) (Kd.pair (Kd.int .u8) (Kd.pair (Kd.int .u8) (Kd.pair (Kd.int .u8) (Kd.pair (Kd.int .u8) (Kd.pair (Kd.int .u8) (Kd.pair (Kd.int .u8) (Kd.pair (Kd.int .u8) (Kd.pair (Kd.int .u8) (Kd.pair (Kd.int .u8) (Kd.pair (Kd.int .u8) (Kd.pair (Kd.int .u8) (Kd.pair (Kd.int .u8) (Kd.pair (Kd.int .u8) (Kd.int .u8)))))))))))))))) (fun x => ((Lit.int .u8 x.1).wf = true) ∧ ((Lit.int .u8 x.2.1).wf = true) ∧ ((Lit.int .u8 x.2.2.1).wf = true) ∧ ((Lit.int .u8 x.2.2.2.1).wf = true) ∧ ((Lit.int .u8 x.2.2.2.2.1).wf = true) ∧ ((Lit.int .u8 x.2.2.2.2.2.1).wf = true) ∧ ((Lit.int .u8 x.2.2.2.2.2.2.1).wf = true) ∧ ((Lit.int .u8 x.2.2.2.2.2.2.2.1).wf = true) ∧ ((Lit.int .u8 x.2.2.2.2.2.2.2.2.1).wf = true) ∧ ((Lit.int .u8 x.2.2.2.2.2.2.2.2.2.1).wf = true) ∧ ((Lit.int .u8 x.2.2.2.2.2.2.2.2.2.2.1).wf = true) ∧ ((Lit.int .u8 x.2.2.2.2.2.2.2.2.2.2.2.1).wf = true) ∧ ((Lit.int .u8 x.2.2.2.2.2.2.2.2.2.2.2.2.1).wf = true) ∧ ((Lit.int .u8 x.2.2.2.2.2.2.2.2.2.2.2.2.2.1).wf = true) ∧ ((Lit.int .u8 x.2.2.2.2.2.2.2.2.2.2.2.2.2.2.1).wf = true) ∧ ((Lit.int .u8 x.2.2.2.2.2.2.2.2.2.2.2.2.2.2.2).wf = true)) := by
  refine ⟨by kernel_rfl, fun {H enc w spare held fuel cs x} h => ?_⟩
  obtain ⟨xs, n, rfl, rfl, hl, hn, hf⟩ := DataW.trod_array Try.underlying41 h
  have hl : cs.length = 16 := hl
  have hn : xs.length = 16 := hn
  obtain ⟨v0, k0, w0⟩ := field_of (o := 0) (n := 1) (i := 0) opens5 (hf 0 (by decide)) (by omega)
  obtain ⟨v1, k1, w1⟩ := field_of (o := 1) (n := 1) (i := 1) opens5 (hf 1 (by decide)) (by omega)
  obtain ⟨v2, k2, w2⟩ := field_of (o := 2) (n := 1) (i := 2) opens5 (hf 2 (by decide)) (by omega)
  obtain ⟨v3, k3, w3⟩ := field_of (o := 3) (n := 1) (i := 3) opens5 (hf 3 (by decide)) (by omega)
  obtain ⟨v4, k4, w4⟩ := field_of (o := 4) (n := 1) (i := 4) opens5 (hf 4 (by decide)) (by omega)
  obtain ⟨v5, k5, w5⟩ := field_of (o := 5) (n := 1) (i := 5) opens5 (hf 5 (by decide)) (by omega)
  obtain ⟨v6, k6, w6⟩ := field_of (o := 6) (n := 1) (i := 6) opens5 (hf 6 (by decide)) (by omega)
  obtain ⟨v7, k7, w7⟩ := field_of (o := 7) (n := 1) (i := 7) opens5 (hf 7 (by decide)) (by omega)
  obtain ⟨v8, k8, w8⟩ := field_of (o := 8) (n := 1) (i := 8) opens5 (hf 8 (by decide)) (by omega)
  obtain ⟨v9, k9, w9⟩ := field_of (o := 9) (n := 1) (i := 9) opens5 (hf 9 (by decide)) (by omega)
  obtain ⟨v10, k10, w10⟩ := field_of (o := 10) (n := 1) (i := 10) opens5 (hf 10 (by decide)) (by omega)
  obtain ⟨v11, k11, w11⟩ := field_of (o := 11) (n := 1) (i := 11) opens5 (hf 11 (by decide)) (by omega)
  obtain ⟨v12, k12, w12⟩ := field_of (o := 12) (n := 1) (i := 12) opens5 (hf 12 (by decide)) (by omega)
  obtain ⟨v13, k13, w13⟩ := field_of (o := 13) (n := 1) (i := 13) opens5 (hf 13 (by decide)) (by omega)
  obtain ⟨v14, k14, w14⟩ := field_of (o := 14) (n := 1) (i := 14) opens5 (hf 14 (by decide)) (by omega)
  obtain ⟨v15, k15, w15⟩ := field_of (o := 15) (n := 1) (i := 15) opens5 (hf 15 (by decide)) (by omega)
  exact ⟨(v0, v1, v2, v3, v4, v5, v6, v7, v8, v9, v10, v11, v12, v13, v14, v15), K_start (K_cons 0 1 1 rfl k0 (K_cons 1 1 2 rfl k1 (K_cons 2 1 3 rfl k2 (K_cons 3 1 4 rfl k3 (K_cons 4 1 5 rfl k4 (K_cons 5 1 6 rfl k5 (K_cons 6 1 7 rfl k6 (K_cons 7 1 8 rfl k7 (K_cons 8 1 9 rfl k8 (K_cons 9 1 10 rfl k9 (K_cons 10 1 11 rfl k10 (K_cons 11 1 12 rfl k11 (K_cons 12 1 13 rfl k12 (K_cons 13 1 14 rfl k13 (K_cons 14 1 15 rfl k14 (K_last 15 1 hl k15)))))))))))))))), ⟨w0, w1, w2, w3, w4, w5, w6, w7, w8, w9, w10, w11, w12, w13, w14, w15⟩⟩
end Go.Proofs.Yteaelhdcmnhcbaa.SFnExactOfFrame
