/- SettleUp of the program and of the reference agree at every purse and every two ints. No condition. -/
import Derived.Test.YtodehmbgcncnhaaSFnExactSettleUp
set_option linter.unusedVariables false
set_option linter.unusedSimpArgs false
namespace Go.Proofs.Ytodehmbgcncnhaa.Pure
open Go.RowKit Go.Proofs.Ytodehmbgcncnhaa.PFnExactSettleUp Go.Proofs.Ytodehmbgcncnhaa.SFnExactSettleUp Go.Proofs.YtodehmbgcncnhaaW.PrintWords Go.Proofs.YtodehmbgcncnhaaW.PrintLast

theorem in_eq (x a b : Int) : impl_in.f x a b = some (decide (a ≤ x ∧ x ≤ b)) := by
  unfold impl_in.f
  by_cases h : x ≥ a
  · rw [if_pos h]; simp; intro _; exact h
  · rw [if_neg h]; simp; omega
theorem l1_eq (x a b : Int) : spec_l1In.f x a b = some (decide (a ≤ x ∧ x ≤ b)) := in_eq x a b

theorem FnExactSettleUp : SFnExactSettleUp.Pure := by
  intro a b c d _ _ _ _
  unfold laws_FnExactSettleUp.f laws_toPurse.f spec_SettleUp.f impl_SettleUp.f spec_l9Purse.f impl_purseOk.f spec_l4Tick.f laws_eqPurse.f
  simp only [in_eq, l1_eq, Option.bind_some, decide_eq_true_eq]
  by_cases h1 : 0 ≤ a ∧ a ≤ 1000000000
  · by_cases h2 : 0 ≤ b ∧ b ≤ a
    · have h3 : 0 ≤ b ∧ b ≤ 1000000000 := by omega
      by_cases h4 : 0 ≤ c ∧ c ≤ b <;> by_cases h5 : 0 ≤ d ∧ d ≤ c <;> simp [h1, h2, h3, h4, h5]
    · by_cases h3 : 0 ≤ b ∧ b ≤ 1000000000
      · have h6 : ¬ b ≤ a := by omega
        simp [h1, h2, h3, h6]
      · simp [h1, h2, h3]
  · simp [h1]

end Go.Proofs.Ytodehmbgcncnhaa.Pure
