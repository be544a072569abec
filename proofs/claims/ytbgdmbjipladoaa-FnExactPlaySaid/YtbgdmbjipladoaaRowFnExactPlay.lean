-- laid by a program of this session (wip/lay/lay.py); Lean checks it
import Derived.Test.YtbgdmbjipladoaaRows
import Derived.Test.YtbgdmbjipladoaaSFnExactPlay
import Derived.Test.YtbgdmbjipladoaaPureFnExactPlay
import Derived.WalkKit
import Derived.ProofKit
import Derived.OpenShut
import Derived.ShutString
import Derived.ChangeOld
import Derived.Below
import Derived.SizedLaws
namespace Go.Proofs.Ytbgdmbjipladoaa.fnExactPlay
open Go.ChangeShapes Go.WideShapes Go.ChangeAt Go.RowKit Go.Proofs.Ytbgdmbjipladoaa.SFnExactPlay Go.Proofs.Ytbgdmbjipladoaa.PFnExactPlay Go.Proofs.Ytbgdmbjipladoaa.Open Go.Proofs.YtbgdmbjipladoaaW.PrintWords
open Go.ChangeMaps (open_string shut_string)
set_option linter.unusedVariables false
theorem own : ownKnob Try.prog.godebug = none := by kernel_rfl
theorem laidOut : laidOutB Try.prog = true := by kernel_rfl
set_option maxRecDepth 100000 in
set_option maxHeartbeats 1000000 in
theorem lifted (os : Os) (started : os.Started) (H : Type) (enc : TypeId × Value → H) :
    ReturnsInHanded {} Try.checked os 7 .any (Rows.fnExactPlaySpec.pre6 enc Try.prog Try.f7 Rows.fnExactPlayRow.domain false) (Rows.fnExactPlaySpec.post enc Try.prog Try.f7 false true false false) := by
  refine returnsInHanded_of_change (C := Try.checked) own started (by kernel_rfl) Try.func7
    (ChangeSpec.witness6 (enc := enc) (C := Try.checked) false ⟨#[], #[.agg #[.int .i64 0, .int .i64 0, .int .i64 0, .int .i64 0, .int .i64 0, .slice none 0 0]], []⟩ 8 (by kernel_rfl) (by kernel_rfl) (by kernel_rfl) (by kernel_rfl)) ?_
  intro W base args ds gs before hval0 hW hcnd _
  have hval : ∀ (j : Nat) t v, Try.f7.params[j]? = some t → args[j]? = some v → Value.okWide Try.prog W .any base t v := hval0
  have hW' := hW
  obtain ⟨p, q, hA0, hV, rfl, hfz, hnd⟩ := hW
  have hA : DataW.TrodAll enc Try.prog W 0 (fun _ => true) true Try.f7.params.toList args.toList ds p := hA0
  rw [Try.params7] at hA hval
  obtain ⟨v0, vs0, d0, ds0, p0, q0, hargs, rfl, rfl, h0, r0⟩ := trodAll_cons hA
  obtain ⟨rfl, rfl, rfl⟩ := trodAll_nil r0
  obtain rfl : args = #[v0] := by cases args; simp_all
  obtain ⟨rfl, rfl⟩ := trodVars_none hV
  have k0 := h0
  have lt0 : ∀ x ∈ p0, x.block < W.heap.size := by obtain ⟨m, hm⟩ := k0; exact DataW.trod_lt m _ _ _ hm
  obtain ⟨cs0, rfl, hs0⟩ := okWide_struct Try.underlying31 (hval 0 31 v0 rfl rfl)
  obtain ⟨fuel0, hf0⟩ := h0
  obtain ⟨x0, K0, wx0⟩ := opensR31.get hf0
  obtain ⟨cl0⟩ := cs0
  have e0 : (Value.agg ⟨cl0⟩).cells.toList = cl0 := rfl
  rw [e0] at K0
  obtain ⟨A0_5, c0_5, rfl, hc0_5, hr0_5⟩ : ∃ (A0_5 : Option Addr) (c0_5 : Nat), cl0 = [Value.int .i64 (x0.1), Value.int .i64 (x0.2.1), Value.int .i64 (x0.2.2.1), Value.int .i64 (x0.2.2.2.1), Value.int .i64 (x0.2.2.2.2.1), Value.slice A0_5 (x0.2.2.2.2.2).length c0_5] ∧ (x0.2.2.2.2.2).length ≤ c0_5 ∧ Kd.C k41 W A0_5 (x0.2.2.2.2.2).length (x0.2.2.2.2.2) := by
    clear hs0 hf0 k0 lt0 e0
    obtain ⟨_, _, rfl, rfl, ⟨_, _, rfl, rfl, ⟨_, _, rfl, rfl, ⟨_, _, rfl, rfl, ⟨_, _, rfl, rfl, ⟨A0_5, c0_5, rfl, hc0_5, hr0_5⟩⟩⟩⟩⟩⟩ := K0
    exact ⟨A0_5, c0_5, rfl, hc0_5, hr0_5⟩
  obtain ⟨k, h⟩ := Pure.FnExactPlay (x0.1) (x0.2.1) (x0.2.2.1) (x0.2.2.2.1) (x0.2.2.2.2.1) (x0.2.2.2.2.2) (wx0.1) (wx0.2.1) (wx0.2.2.1) (wx0.2.2.2.1) (wx0.2.2.2.2.1) (wx0.2.2.2.2.2)
  refine (laws_FnExactPlay.calls k (x0.1) (x0.2.1) (x0.2.2.1) (x0.2.2.2.1) (x0.2.2.2.2.1) _ _ (x0.2.2.2.2.2) true W hr0_5 hc0_5 h).mono fun e W' hh => ?_
  obtain ⟨he, bel0⟩ := hh
  have bel : Below W.heap.size W W' := bel0
  subst he
  exact ⟨_, rfl, _, _, _, [], _, [], hW', trodAll_mk1 (shut_bool Try.underlying4 _), (trodAll_cons_mk (Below.trod laidOut (by kernel_rfl) (of_decide_eq_true (by kernel_rfl)) k0 bel lt0) trodAll_mk0), rfl, bel.frame _, fun h => by cases h⟩
theorem over : Rows.fnExactPlayRow.holds Try.pinned (OpenSpec.ofChange Rows.fnExactPlaySpec) :=
  OpenClaim.holds_of_wide 7 Try.f7 rfl rfl rfl rfl rfl rfl rfl ⟨rfl, rfl, rfl, rfl, rfl⟩ rfl rfl rfl rfl rfl (by kernel_rfl) Try.func7 (by kernel_rfl)
    (of_decide_eq_true (by kernel_rfl)) (by unfold Func.isWrapper; first | (rw [if_pos (by decide +kernel)]; kernel_rfl) | (rw [if_neg (by decide +kernel)]; exact ⟨rfl, rfl⟩))
    (fun os started H enc _ => lifted os started H enc)
theorem proved : Rows.FnExactPlaySaid := over
#print axioms proved
end Go.Proofs.Ytbgdmbjipladoaa.fnExactPlay
namespace Go.Proofs.Ytbgdmbjipladoaa
/-- The row, under a short name, for the claim. -/
theorem fnExactPlay_holds : Rows.FnExactPlaySaid := fnExactPlay.proved
end Go.Proofs.Ytbgdmbjipladoaa
