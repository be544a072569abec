/- VoiceOk of the program and of the reference agree at every list, and leave it as it was. No condition. -/
import Derived.Test.YteaelhdcmnhcbaaSFnExactVoiceOk
namespace Go.Proofs.Yteaelhdcmnhcbaa.Pure
open Go.RowKit Go.Proofs.Yteaelhdcmnhcbaa.PFnExactVoiceOk Go.Proofs.YteaelhdcmnhcbaaW.PrintWords Go.Proofs.YteaelhdcmnhcbaaW.PrintLast


theorem w64 {x : Int} (h : -9000000000000000000 ≤ x ∧ x ≤ 9000000000000000000) : wrap64 x = x := by unfold wrap64; omega
theorem rd_drop (l : List Int) (i : Int) (h0 : 0 ≤ i) (h1 : i < l.length) : rd l i = l[i.toNat]'(by omega) := by
  simp [rd, List.getD_eq_getElem?_getD, List.getElem?_eq_getElem (show i.toNat < l.length by omega)]

theorem to_loop (l : List Int) (hl : (l.length : Int) ≤ 1048576) (d : Nat) : ∀ (k : Nat) (i : Int) (m : List Int), 0 ≤ i → i ≤ l.length → (l.length : Int) - i = d → d < k → m.length = l.length →
    (∀ j : Nat, (j : Int) < i → m[j]? = l[j]?) → laws_toIntS.l0 k l m i = some l := by
  induction d with
  | zero =>
    intro k i m h0 h1 hd hk hm hp
    obtain ⟨k, rfl⟩ : ∃ m, k = m + 1 := ⟨k - 1, by omega⟩
    simp only [laws_toIntS.l0]
    rw [if_neg (by omega)]
    congr 1
    apply List.ext_getElem?
    intro j
    by_cases hj : j < l.length
    · exact hp j (by omega)
    · rw [List.getElem?_eq_none (by omega), List.getElem?_eq_none (by omega)]
  | succ d ih =>
    intro k i m h0 h1 hd hk hm hp
    obtain ⟨k, rfl⟩ : ∃ m, k = m + 1 := ⟨k - 1, by omega⟩
    have ei : wrap64 (i + 1) = i + 1 := w64 (by omega)
    simp only [laws_toIntS.l0]
    rw [if_pos (by omega), if_pos h0, if_pos (by omega), ei]
    refine ih k (i + 1) _ (by omega) (by omega) (by omega) (by omega) (by simpa using hm) ?_
    intro j hj
    by_cases e : j = i.toNat
    · subst e
      rw [List.getElem?_set_self (by omega), rd_drop l i h0 (by omega)]
      exact (List.getElem?_eq_getElem (by omega)).symm
    · rw [List.getElem?_set_ne (by omega)]
      exact hp j (by omega)
theorem to_all (l : List Int) (hl : (l.length : Int) ≤ 1048576) (k : Nat) (hk : l.length < k) : laws_toIntS.f k l = some l := by
  unfold laws_toIntS.f
  rw [if_pos (by omega), if_pos (by omega)]
  exact to_loop l hl l.length k 0 _ (by omega) (by omega) (by omega) hk (by simp) (fun j hj => by omega)
theorem eq_loop (l : List Int) (hl : (l.length : Int) ≤ 1048576) (d : Nat) : ∀ (k : Nat) (i : Int), 0 ≤ i → i ≤ l.length → (l.length : Int) - i = d → d < k → laws_eqIntS.l0 k l l i = some true := by
  induction d with
  | zero =>
    intro k i h0 h1 hd hk
    obtain ⟨k, rfl⟩ : ∃ m, k = m + 1 := ⟨k - 1, by omega⟩
    simp only [laws_eqIntS.l0]
    rw [if_neg (by omega)]
  | succ d ih =>
    intro k i h0 h1 hd hk
    obtain ⟨k, rfl⟩ : ∃ m, k = m + 1 := ⟨k - 1, by omega⟩
    have ei : wrap64 (i + 1) = i + 1 := w64 (by omega)
    have hlt : i < (l.length : Int) := by omega
    simp only [laws_eqIntS.l0, if_pos hlt, if_pos h0, ei, if_true]
    exact ih k (i + 1) (by omega) (by omega) (by omega) (by omega)
theorem eq_all (l : List Int) (hl : (l.length : Int) ≤ 1048576) (k : Nat) (hk : l.length < k) : laws_eqIntS.f k l l = some true := by
  unfold laws_eqIntS.f
  rw [if_pos rfl]
  exact eq_loop l hl l.length k 0 (by omega) (by omega) (by omega) hk

theorem voice_loops (l : List Int) (hl : (l.length : Int) ≤ 1048576) (d : Nat) : ∀ (k : Nat) (i : Int), 0 ≤ i → i ≤ l.length → (l.length : Int) - i = d → d < k →
    ∃ b, spec_VoiceOk.l0 k l i = some b ∧ impl_levelsOk.l0 k l 300 l (l.length : Int) i = some b := by
  induction d with
  | zero =>
    intro k i h0 h1 hd hk
    obtain ⟨k, rfl⟩ : ∃ m, k = m + 1 := ⟨k - 1, by omega⟩
    exact ⟨_, by simp only [spec_VoiceOk.l0]; rw [if_neg (by omega)], by simp only [impl_levelsOk.l0]; rw [if_neg (by omega)]⟩
  | succ d ih =>
    intro k i h0 h1 hd hk
    obtain ⟨k, rfl⟩ : ∃ m, k = m + 1 := ⟨k - 1, by omega⟩
    have ei : wrap64 (i + 1) = i + 1 := w64 (by omega)
    have hlt : i < (l.length : Int) := by omega
    simp only [spec_VoiceOk.l0, impl_levelsOk.l0, if_pos hlt, if_pos h0, ei]
    have A := ih k (i + 1) (by omega) (by omega) (by omega) (by omega)
    unfold spec_l2Level.f spec_l1In.f impl_in.f
    by_cases c0 : rd l i ≥ -32767
    · by_cases c1 : rd l i ≤ 32767
      · simpa [c0, c1] using A
      · simp [c0, c1]
    · simp [c0]

theorem FnExactVoiceOk : SFnExactVoiceOk.Pure := by
  intro l _
  refine ⟨l.length + 1, ?_⟩
  unfold laws_FnExactVoiceOk.f
  by_cases h : (l.length : Int) > 1048576
  · rw [if_pos h]
  · have hl : (l.length : Int) ≤ 1048576 := by omega
    obtain ⟨b, h1, h2⟩ := voice_loops l hl l.length (l.length + 1) 0 (by omega) (by omega) (by omega) (by omega)
    rw [if_neg h, to_all l hl _ (by omega)]
    simp only [Option.bind_some]
    unfold spec_VoiceOk.f impl_VoiceOk.f impl_levelsOk.f
    rw [h1, h2]
    simp only [Option.bind_some, eq_all l hl _ (Nat.lt_succ_self _)]
    simp

end Go.Proofs.Yteaelhdcmnhcbaa.Pure
