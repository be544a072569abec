/- FnQuotients returns true at every slice of bytes: a drawn pair of whole numbers that was multiplied by 1, by -1, by i, by 1 + i, by -1 + i or by 2 is what it was when it is divided by that again; by nothing nothing is divided. No condition. -/
import Derived.Test.YtplhdplebbhakaaSFnQuotients
set_option linter.unusedVariables false
set_option linter.unusedSimpArgs false
namespace Go.Proofs.Ytplhdplebbhakaa.Pure
open Go.RowKit Go.Proofs.Ytplhdplebbhakaa.PFnQuotients Go.Proofs.Ytplhdplebbhakaa.SFnQuotients Go.Proofs.YtplhdplebbhakaaW.PrintWords Go.Proofs.YtplhdplebbhakaaW.PrintLast Go.Proofs.YtplhdplebbhakaaW.PrintMore
theorem at_ok (l : List Int) (hb : ∀ y ∈ l, 0 ≤ y ∧ y ≤ 255) (hl : (l.length : Int) ≤ 1048576) (i : Int) (h0 : 0 ≤ i) (h1 : i ≤ 10) : ∃ x, laws_at.f l i = some x ∧ 0 ≤ x ∧ x ≤ 255 := by
  unfold laws_at.f
  by_cases c : i < (l.length : Int)
  · rw [if_pos c, if_pos h0]
    have hm : rd l i ∈ l := by
      have e : rd l i = l[i.toNat]'(by omega) := by simp [rd, List.getD_eq_getElem?_getD, List.getElem?_eq_getElem (show i.toNat < l.length by omega)]
      rw [e]
      exact List.getElem_mem _
    have := hb _ hm
    exact ⟨_, rfl, by unfold wrap64; omega, by unfold wrap64; omega⟩
  · rw [if_neg c]
    refine ⟨_, rfl, ?_, ?_⟩
    · rw [show wrap64 (wrap64 (i * 7) + (l.length : Int)) = i * 7 + l.length by unfold wrap64; omega, Int.tmod_eq_emod_of_nonneg (by omega)]; omega
    · rw [show wrap64 (wrap64 (i * 7) + (l.length : Int)) = i * 7 + l.length by unfold wrap64; omega, Int.tmod_eq_emod_of_nonneg (by omega)]; omega
theorem FnQuotients : SFnQuotients.Pure := by
  intro l h
  have hb : ∀ y ∈ l, 0 ≤ y ∧ y ≤ 255 := fun y hy => by
    have q := h.1 y hy
    simp [Lit.wf, IntKind.min, IntKind.max, IntKind.bits, IntKind.signed] at q
    omega
  unfold laws_FnQuotients.f
  rw [show laws_big.f l = some (decide ((l.length : Int) > 1048576)) from rfl, Option.bind_some]
  by_cases c : (l.length : Int) > 1048576
  · rw [decide_eq_true c, if_pos rfl]
  · rw [decide_eq_false c, if_neg (by decide)]
    obtain ⟨x, e1, p1⟩ := at_ok l hb (by omega) 0 (by omega) (by omega)
    obtain ⟨y, e2, p2⟩ := at_ok l hb (by omega) 1 (by omega) (by omega)
    obtain ⟨z, e3, p3⟩ := at_ok l hb (by omega) 2 (by omega) (by omega)
    rw [e1, Option.bind_some, e2, Option.bind_some, e3, Option.bind_some, if_pos ⟨p1.1, p1.2, p2.1, p2.2, p3.1⟩]

end Go.Proofs.Ytplhdplebbhakaa.Pure
