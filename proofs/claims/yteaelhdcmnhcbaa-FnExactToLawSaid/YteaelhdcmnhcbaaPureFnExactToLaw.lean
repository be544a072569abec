/- ToLaw of the program and of the reference agree at every int: both try the 256 numbers, the program from 0 on, the reference from 1 on, and their FromLaw agree on 0 to 255. No condition. -/
import Derived.Test.YteaelhdcmnhcbaaPFnExactToLawx1
namespace Go.Proofs.Yteaelhdcmnhcbaa.Pure
open Go.RowKit Go.Proofs.Yteaelhdcmnhcbaa.PFnExactToLaw Go.Proofs.YteaelhdcmnhcbaaW.PrintWords Go.Proofs.YteaelhdcmnhcbaaW.PrintLast


theorem from_same : ∀ n : Fin 256, impl_FromLaw.f (n.val : Int) = spec_FromLaw.f (n.val : Int) ∧ (spec_FromLaw.f (n.val : Int)).isSome = true := by decide +kernel
theorem from_bound : ∀ n : Fin 256, ∀ r, spec_FromLaw.f (n.val : Int) = some r → -40000 ≤ r ∧ r ≤ 40000 := by
  have h : ∀ n : Fin 256, (spec_FromLaw.f (n.val : Int)).all (fun r => decide (-40000 ≤ r ∧ r ≤ 40000)) = true := by decide +kernel
  intro n r hr
  have := h n
  rw [hr] at this
  simpa using this
theorem from_at (b : Int) (h0 : 0 ≤ b) (h1 : b < 256) : ∃ r, spec_FromLaw.f b = some r ∧ impl_FromLaw.f b = some r ∧ -40000 ≤ r ∧ r ≤ 40000 := by
  have h := from_same ⟨b.toNat, by omega⟩
  have g := from_bound ⟨b.toNat, by omega⟩
  simp only [Int.toNat_of_nonneg h0] at h g
  obtain ⟨r, hr⟩ := Option.isSome_iff_exists.1 h.2
  exact ⟨r, hr, h.1.trans hr, g r hr⟩
theorem size_same (x : Int) (h : -100000 ≤ x ∧ x ≤ 100000) : ∃ r, spec_l11Size.f x = some r ∧ impl_size.f x = some r := by
  unfold spec_l11Size.f impl_size.f
  have e : wrap64 (-x) = -x := by unfold wrap64; omega
  rw [e]
  by_cases h0 : x < 0
  · exact ⟨-x, by rw [if_pos h0], by unfold mx; congr 1; omega⟩
  · exact ⟨x, by rw [if_neg h0], by unfold mx; congr 1; omega⟩
theorem w64 {x : Int} (h : -9000000000000000000 ≤ x ∧ x ≤ 9000000000000000000) : wrap64 x = x := by unfold wrap64; omega

theorem loops (x : Int) (hx : -32767 ≤ x ∧ x ≤ 32767) (d : Nat) : ∀ (k : Nat) (b i : Int), 0 ≤ b → b < 256 → 0 ≤ i → i ≤ 256 → 256 - i = d → d < k →
    ∃ r, spec_ToLaw.l0 k x b i = some r ∧ impl_ToLaw.l0 k x b i = some r := by
  induction d with
  | zero =>
    intro k b i hb0 hb1 hi0 hi1 hd hk
    obtain ⟨k, rfl⟩ : ∃ m, k = m + 1 := ⟨k - 1, by omega⟩
    refine ⟨b, ?_, ?_⟩
    · simp only [spec_ToLaw.l0]; rw [if_neg (by omega)]
    · simp only [impl_ToLaw.l0]; rw [if_neg (by omega)]
  | succ d ih =>
    intro k b i hb0 hb1 hi0 hi1 hd hk
    obtain ⟨k, rfl⟩ : ∃ m, k = m + 1 := ⟨k - 1, by omega⟩
    obtain ⟨p, hp1, hp2, hpb⟩ := from_at i hi0 (by omega)
    obtain ⟨q, hq1, hq2, hqb⟩ := from_at b hb0 hb1
    have ep : wrap64 (p - x) = p - x := w64 (by omega)
    have eq : wrap64 (q - x) = q - x := w64 (by omega)
    have ei : wrap64 (i + 1) = i + 1 := w64 (by omega)
    obtain ⟨s1, hs1, ht1⟩ := size_same (p - x) (by omega)
    obtain ⟨s2, hs2, ht2⟩ := size_same (q - x) (by omega)
    obtain ⟨s3, hs3, ht3⟩ := size_same p (by omega)
    obtain ⟨s4, hs4, ht4⟩ := size_same q (by omega)
    have A := ih k i (i + 1) (by omega) (by omega) (by omega) (by omega) (by omega) (by omega)
    have B := ih k b (i + 1) (by omega) (by omega) (by omega) (by omega) (by omega) (by omega)
    simp only [spec_ToLaw.l0, impl_ToLaw.l0]
    rw [if_pos (by omega), if_pos (by omega), hp1, hq1, hp2, hq2]
    simp only [Option.bind_some, ep, eq, ei, hs1, hs2, hs3, hs4, ht1, ht2, ht3, ht4]
    by_cases c1 : s1 < s2
    · simp only [if_pos c1]; exact A
    · simp only [if_neg c1]
      by_cases c2 : s1 = s2
      · simp only [if_pos c2]
        by_cases c3 : s3 < s4
        · simp only [if_pos c3]; exact A
        · simp only [if_neg c3]; exact B
      · simp only [if_neg c2]; exact B

theorem first_round (x : Int) (hx : -32767 ≤ x ∧ x ≤ 32767) (k : Nat) : impl_ToLaw.l0 (k + 1) x 0 0 = impl_ToLaw.l0 k x 0 1 := by
  obtain ⟨q, hq1, hq2, hqb⟩ := from_at 0 (by omega) (by omega)
  have eq : wrap64 (q - x) = q - x := w64 (by omega)
  have e1 : wrap64 (0 + 1) = 1 := w64 (by omega)
  obtain ⟨s2, hs2, ht2⟩ := size_same (q - x) (by omega)
  obtain ⟨s4, hs4, ht4⟩ := size_same q (by omega)
  conv => lhs; simp only [impl_ToLaw.l0]
  rw [if_pos (by omega), hq2]
  simp only [Option.bind_some, eq, e1, ht2, ht4, Int.lt_irrefl, if_false, if_true]

theorem FnExactToLaw : laws_FnExactToLaw.Pure := by
  intro x _
  refine ⟨600, ?_⟩
  unfold laws_FnExactToLaw.f spec_ToLaw.f impl_ToLaw.f spec_l2Level.f spec_l1In.f impl_in.f
  by_cases h0 : x ≥ -32767
  · by_cases h1 : x ≤ 32767
    · obtain ⟨r, hr, hs⟩ := loops x ⟨h0, h1⟩ 255 599 0 1 (by omega) (by omega) (by omega) (by omega) (by omega) (by omega)
      have hr' := spec_ToLaw.mono_l 599 x 0 1 r hr
      have hs' := first_round x ⟨h0, h1⟩ 599
      simp only [h0, h1, if_true, decide_true, Option.bind_some]
      rw [hr', hs', hs]
      simp
    · simp [h0, h1]
  · simp [h0]

end Go.Proofs.Yteaelhdcmnhcbaa.Pure
