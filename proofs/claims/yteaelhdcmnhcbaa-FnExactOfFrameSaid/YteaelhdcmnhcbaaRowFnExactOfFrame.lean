-- laid by a program of this session (wip/lay/lay.py); Lean checks it
import Derived.Test.YteaelhdcmnhcbaaRows
import Derived.Test.YteaelhdcmnhcbaaSFnExactOfFrame
import Derived.Test.YteaelhdcmnhcbaaPureFnExactOfFrame
import Derived.WalkKit
import Derived.ProofKit
import Derived.OpenShut
import Derived.ShutString
import Derived.ChangeOld
import Derived.Below
import Derived.SizedLaws
namespace Go.Proofs.Yteaelhdcmnhcbaa.fnExactOfFrame
open Go.ChangeShapes Go.WideShapes Go.ChangeAt Go.RowKit Go.Proofs.Yteaelhdcmnhcbaa.SFnExactOfFrame Go.Proofs.Yteaelhdcmnhcbaa.PFnExactOfFrame Go.Proofs.Yteaelhdcmnhcbaa.Open Go.Proofs.YteaelhdcmnhcbaaW.PrintWords
open Go.ChangeMaps (open_string shut_string)
set_option linter.unusedVariables false
theorem own : ownKnob Try.prog.godebug = none := by kernel_rfl
theorem laidOut : laidOutB Try.prog = true := by kernel_rfl
set_option maxRecDepth 100000 in
set_option maxHeartbeats 1000000 in
theorem lifted (os : Os) (started : os.Started) (H : Type) (enc : TypeId × Value → H) :
    ReturnsInHanded {} Try.checked os 9 .any (Rows.fnExactOfFrameSpec.pre6 enc Try.prog Try.f9 Rows.fnExactOfFrameRow.domain false) (Rows.fnExactOfFrameSpec.post enc Try.prog Try.f9 false true false false) := by
  refine returnsInHanded_of_change (C := Try.checked) own started (by kernel_rfl) Try.func9
    (ChangeSpec.witness6 (enc := enc) (C := Try.checked) false ⟨#[], #[.int .i64 0, .agg #[.int .u8 0, .int .u8 0, .int .u8 0, .int .u8 0, .int .u8 0, .int .u8 0, .int .u8 0, .int .u8 0, .int .u8 0, .int .u8 0, .int .u8 0, .int .u8 0, .int .u8 0, .int .u8 0, .int .u8 0, .int .u8 0]], []⟩ 8 (by kernel_rfl) (by kernel_rfl) (by kernel_rfl) (by kernel_rfl)) ?_
  intro W base args ds gs before hval0 hW hcnd _
  have hval : ∀ (j : Nat) t v, Try.f9.params[j]? = some t → args[j]? = some v → Value.okWide Try.prog W .any base t v := hval0
  have hW' := hW
  obtain ⟨p, q, hA0, hV, rfl, hfz, hnd⟩ := hW
  have hA : DataW.TrodAll enc Try.prog W 0 (fun _ => true) true Try.f9.params.toList args.toList ds p := hA0
  rw [Try.params9] at hA hval
  obtain ⟨v0, vs0, d0, ds0, p0, q0, hargs, rfl, rfl, h0, r0⟩ := trodAll_cons hA
  obtain ⟨v1, vs1, d1, ds1, p1, q1, rfl, rfl, rfl, h1, r1⟩ := trodAll_cons r0
  obtain ⟨rfl, rfl, rfl⟩ := trodAll_nil r1
  obtain rfl : args = #[v0, v1] := by cases args; simp_all
  obtain ⟨rfl, rfl⟩ := trodVars_none hV
  have k0 := h0
  have lt0 : ∀ x ∈ p0, x.block < W.heap.size := by obtain ⟨m, hm⟩ := k0; exact DataW.trod_lt m _ _ _ hm
  obtain ⟨a0, rfl, rfl, rfl, wa0⟩ := open_int Try.underlying3 (hval 0 3 v0 rfl rfl) h0
  have k1 := h1
  have lt1 : ∀ x ∈ p1, x.block < W.heap.size := by obtain ⟨m, hm⟩ := k1; exact DataW.trod_lt m _ _ _ hm
  obtain ⟨cs1, rfl, hs1⟩ := okWide_array Try.underlying41 (hval 1 41 v1 rfl rfl)
  obtain ⟨fuel1, hf1⟩ := h1
  obtain ⟨x1, K1, wx1⟩ := opensR41.get hf1
  obtain ⟨cl1⟩ := cs1
  have e1 : (Value.agg ⟨cl1⟩).cells.toList = cl1 := rfl
  rw [e1] at K1
  obtain ⟨rfl⟩ : cl1 = [Value.int .u8 (x1.1), Value.int .u8 (x1.2.1), Value.int .u8 (x1.2.2.1), Value.int .u8 (x1.2.2.2.1), Value.int .u8 (x1.2.2.2.2.1), Value.int .u8 (x1.2.2.2.2.2.1), Value.int .u8 (x1.2.2.2.2.2.2.1), Value.int .u8 (x1.2.2.2.2.2.2.2.1), Value.int .u8 (x1.2.2.2.2.2.2.2.2.1), Value.int .u8 (x1.2.2.2.2.2.2.2.2.2.1), Value.int .u8 (x1.2.2.2.2.2.2.2.2.2.2.1), Value.int .u8 (x1.2.2.2.2.2.2.2.2.2.2.2.1), Value.int .u8 (x1.2.2.2.2.2.2.2.2.2.2.2.2.1), Value.int .u8 (x1.2.2.2.2.2.2.2.2.2.2.2.2.2.1), Value.int .u8 (x1.2.2.2.2.2.2.2.2.2.2.2.2.2.2.1), Value.int .u8 (x1.2.2.2.2.2.2.2.2.2.2.2.2.2.2.2)] := by
    clear hs1 hf1 k1 lt1 e1
    obtain ⟨_, _, rfl, rfl, ⟨_, _, rfl, rfl, ⟨_, _, rfl, rfl, ⟨_, _, rfl, rfl, ⟨_, _, rfl, rfl, ⟨_, _, rfl, rfl, ⟨_, _, rfl, rfl, ⟨_, _, rfl, rfl, ⟨_, _, rfl, rfl, ⟨_, _, rfl, rfl, ⟨_, _, rfl, rfl, ⟨_, _, rfl, rfl, ⟨_, _, rfl, rfl, ⟨_, _, rfl, rfl, ⟨_, _, rfl, rfl, rfl⟩⟩⟩⟩⟩⟩⟩⟩⟩⟩⟩⟩⟩⟩⟩ := K1
    exact rfl
  obtain ⟨k, h⟩ := Pure.FnExactOfFrame a0 (x1.1) (x1.2.1) (x1.2.2.1) (x1.2.2.2.1) (x1.2.2.2.2.1) (x1.2.2.2.2.2.1) (x1.2.2.2.2.2.2.1) (x1.2.2.2.2.2.2.2.1) (x1.2.2.2.2.2.2.2.2.1) (x1.2.2.2.2.2.2.2.2.2.1) (x1.2.2.2.2.2.2.2.2.2.2.1) (x1.2.2.2.2.2.2.2.2.2.2.2.1) (x1.2.2.2.2.2.2.2.2.2.2.2.2.1) (x1.2.2.2.2.2.2.2.2.2.2.2.2.2.1) (x1.2.2.2.2.2.2.2.2.2.2.2.2.2.2.1) (x1.2.2.2.2.2.2.2.2.2.2.2.2.2.2.2) wa0 (wx1.1) (wx1.2.1) (wx1.2.2.1) (wx1.2.2.2.1) (wx1.2.2.2.2.1) (wx1.2.2.2.2.2.1) (wx1.2.2.2.2.2.2.1) (wx1.2.2.2.2.2.2.2.1) (wx1.2.2.2.2.2.2.2.2.1) (wx1.2.2.2.2.2.2.2.2.2.1) (wx1.2.2.2.2.2.2.2.2.2.2.1) (wx1.2.2.2.2.2.2.2.2.2.2.2.1) (wx1.2.2.2.2.2.2.2.2.2.2.2.2.1) (wx1.2.2.2.2.2.2.2.2.2.2.2.2.2.1) (wx1.2.2.2.2.2.2.2.2.2.2.2.2.2.2.1) (wx1.2.2.2.2.2.2.2.2.2.2.2.2.2.2.2)
  refine (laws_FnExactOfFrame.calls k a0 (x1.1) (x1.2.1) (x1.2.2.1) (x1.2.2.2.1) (x1.2.2.2.2.1) (x1.2.2.2.2.2.1) (x1.2.2.2.2.2.2.1) (x1.2.2.2.2.2.2.2.1) (x1.2.2.2.2.2.2.2.2.1) (x1.2.2.2.2.2.2.2.2.2.1) (x1.2.2.2.2.2.2.2.2.2.2.1) (x1.2.2.2.2.2.2.2.2.2.2.2.1) (x1.2.2.2.2.2.2.2.2.2.2.2.2.1) (x1.2.2.2.2.2.2.2.2.2.2.2.2.2.1) (x1.2.2.2.2.2.2.2.2.2.2.2.2.2.2.1) (x1.2.2.2.2.2.2.2.2.2.2.2.2.2.2.2) true W  h).mono fun e W' hh => ?_
  obtain ⟨he, bel0⟩ := hh
  have bel : Below W.heap.size W W' := bel0
  subst he
  exact ⟨_, rfl, _, _, _, [], _, [], hW', trodAll_mk1 (shut_bool Try.underlying4 _), (trodAll_cons_mk (shut_int Try.underlying3 wa0) (trodAll_cons_mk (Below.trod laidOut (by kernel_rfl) (of_decide_eq_true (by kernel_rfl)) k1 bel lt1) trodAll_mk0)), rfl, bel.frame _, fun h => by cases h⟩
theorem over : Rows.fnExactOfFrameRow.holds Try.pinned (OpenSpec.ofChange Rows.fnExactOfFrameSpec) :=
  OpenClaim.holds_of_wide 9 Try.f9 rfl rfl rfl rfl rfl rfl rfl ⟨rfl, rfl, rfl, rfl, rfl⟩ rfl rfl rfl rfl rfl (by kernel_rfl) Try.func9 (by kernel_rfl)
    (of_decide_eq_true (by kernel_rfl)) (by unfold Func.isWrapper; first | (rw [if_pos (by decide +kernel)]; kernel_rfl) | (rw [if_neg (by decide +kernel)]; exact ⟨rfl, rfl⟩))
    (fun os started H enc _ => lifted os started H enc)
theorem proved : Rows.FnExactOfFrameSaid := over
#print axioms proved
end Go.Proofs.Yteaelhdcmnhcbaa.fnExactOfFrame
namespace Go.Proofs.Yteaelhdcmnhcbaa
/-- The row, under a short name, for the claim. -/
theorem fnExactOfFrame_holds : Rows.FnExactOfFrameSaid := fnExactOfFrame.proved
end Go.Proofs.Yteaelhdcmnhcbaa
