-- laid by a program of this session (wip/lay/lay.py); Lean checks it
import Derived.Test.YtplhdplebbhakaaRows
import Derived.Test.YtplhdplebbhakaaSFnExactSubSample
import Derived.Test.YtplhdplebbhakaaPureFnExactSubSample
import Derived.WalkKit
import Derived.ProofKit
import Derived.OpenShut
import Derived.ShutString
import Derived.ChangeOld
import Derived.Below
import Derived.SizedLaws
namespace Go.Proofs.Ytplhdplebbhakaa.fnExactSubSample
open Go.ChangeShapes Go.WideShapes Go.ChangeAt Go.RowKit Go.Proofs.Ytplhdplebbhakaa.SFnExactSubSample Go.Proofs.Ytplhdplebbhakaa.PFnExactSubSample Go.Proofs.Ytplhdplebbhakaa.Open Go.Proofs.YtplhdplebbhakaaW.PrintWords
open Go.ChangeMaps (open_string shut_string)
set_option linter.unusedVariables false
theorem own : ownKnob Try.prog.godebug = none := by kernel_rfl
theorem laidOut : laidOutB Try.prog = true := by kernel_rfl
set_option maxRecDepth 100000 in
set_option maxHeartbeats 1000000 in
theorem lifted (os : Os) (started : os.Started) (H : Type) (enc : TypeId × Value → H) :
    ReturnsInHanded {} Try.checked os 6 .any (Rows.fnExactSubSampleSpec.pre6 enc Try.prog Try.f6 Rows.fnExactSubSampleRow.domain false) (Rows.fnExactSubSampleSpec.post enc Try.prog Try.f6 false true false false) := by
  refine returnsInHanded_of_change (C := Try.checked) own started (by kernel_rfl) Try.func6
    (ChangeSpec.witness6 (enc := enc) (C := Try.checked) false ⟨#[], #[.agg #[.float .f32 0, .float .f32 0], .agg #[.float .f32 0, .float .f32 0]], []⟩ 8 (by kernel_rfl) (by kernel_rfl) (by kernel_rfl) (by kernel_rfl)) ?_
  intro W base args ds gs before hval0 hW hcnd _
  have hval : ∀ (j : Nat) t v, Try.f6.params[j]? = some t → args[j]? = some v → Value.okWide Try.prog W .any base t v := hval0
  have hW' := hW
  obtain ⟨p, q, hA0, hV, rfl, hfz, hnd⟩ := hW
  have hA : DataW.TrodAll enc Try.prog W 0 (fun _ => true) true Try.f6.params.toList args.toList ds p := hA0
  rw [Try.params6] at hA hval
  obtain ⟨v0, vs0, d0, ds0, p0, q0, hargs, rfl, rfl, h0, r0⟩ := trodAll_cons hA
  obtain ⟨v1, vs1, d1, ds1, p1, q1, rfl, rfl, rfl, h1, r1⟩ := trodAll_cons r0
  obtain ⟨rfl, rfl, rfl⟩ := trodAll_nil r1
  obtain rfl : args = #[v0, v1] := by cases args; simp_all
  obtain ⟨rfl, rfl⟩ := trodVars_none hV
  have k0 := h0
  have lt0 : ∀ x ∈ p0, x.block < W.heap.size := by obtain ⟨m, hm⟩ := k0; exact DataW.trod_lt m _ _ _ hm
  obtain ⟨cs0, rfl, hs0⟩ := okWide_struct Try.underlying24 (hval 0 24 v0 rfl rfl)
  obtain ⟨fuel0, hf0⟩ := h0
  obtain ⟨x0, K0, wx0⟩ := opensR24.get hf0
  obtain ⟨cl0⟩ := cs0
  have e0 : (Value.agg ⟨cl0⟩).cells.toList = cl0 := rfl
  rw [e0] at K0
  obtain ⟨rfl⟩ : cl0 = [Value.float .f32 (x0.1), Value.float .f32 (x0.2)] := by
    clear hs0 hf0 k0 lt0 e0
    obtain ⟨_, _, rfl, rfl, rfl⟩ := K0
    exact rfl
  have k1 := h1
  have lt1 : ∀ x ∈ p1, x.block < W.heap.size := by obtain ⟨m, hm⟩ := k1; exact DataW.trod_lt m _ _ _ hm
  obtain ⟨cs1, rfl, hs1⟩ := okWide_struct Try.underlying24 (hval 1 24 v1 rfl rfl)
  obtain ⟨fuel1, hf1⟩ := h1
  obtain ⟨x1, K1, wx1⟩ := opensR24.get hf1
  obtain ⟨cl1⟩ := cs1
  have e1 : (Value.agg ⟨cl1⟩).cells.toList = cl1 := rfl
  rw [e1] at K1
  obtain ⟨rfl⟩ : cl1 = [Value.float .f32 (x1.1), Value.float .f32 (x1.2)] := by
    clear hs1 hf1 k1 lt1 e1
    obtain ⟨_, _, rfl, rfl, rfl⟩ := K1
    exact rfl
  have h := Pure.FnExactSubSample (x0.1) (x0.2) (x1.1) (x1.2) (wx0.1) (wx0.2) (wx1.1) (wx1.2)
  refine (laws_FnExactSubSample.calls (x0.1) (x0.2) (x1.1) (x1.2) true W  h).mono fun e W' hh => ?_
  obtain ⟨he, bel0⟩ := hh
  have bel : Below W.heap.size W W' := bel0
  subst he
  exact ⟨_, rfl, _, _, _, [], _, [], hW', trodAll_mk1 (shut_bool Try.underlying4 _), (trodAll_cons_mk (Below.trod laidOut (by kernel_rfl) (of_decide_eq_true (by kernel_rfl)) k0 bel lt0) (trodAll_cons_mk (Below.trod laidOut (by kernel_rfl) (of_decide_eq_true (by kernel_rfl)) k1 bel lt1) trodAll_mk0)), rfl, bel.frame _, fun h => by cases h⟩
theorem over : Rows.fnExactSubSampleRow.holds Try.pinned (OpenSpec.ofChange Rows.fnExactSubSampleSpec) :=
  OpenClaim.holds_of_wide 6 Try.f6 rfl rfl rfl rfl rfl rfl rfl ⟨rfl, rfl, rfl, rfl, rfl⟩ rfl rfl rfl rfl rfl (by kernel_rfl) Try.func6 (by kernel_rfl)
    (of_decide_eq_true (by kernel_rfl)) (by unfold Func.isWrapper; first | (rw [if_pos (by decide +kernel)]; kernel_rfl) | (rw [if_neg (by decide +kernel)]; exact ⟨rfl, rfl⟩))
    (fun os started H enc _ => lifted os started H enc)
theorem proved : Rows.FnExactSubSampleSaid := over
#print axioms proved
end Go.Proofs.Ytplhdplebbhakaa.fnExactSubSample
namespace Go.Proofs.Ytplhdplebbhakaa
/-- The row, under a short name, for the claim. -/
theorem fnExactSubSample_holds : Rows.FnExactSubSampleSaid := fnExactSubSample.proved
end Go.Proofs.Ytplhdplebbhakaa
