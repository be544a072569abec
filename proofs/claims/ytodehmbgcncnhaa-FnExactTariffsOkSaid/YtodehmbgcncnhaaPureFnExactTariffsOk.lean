/- TariffsOk of the program and of the reference agree at every list, and leave the list as it was. No condition. -/
import Derived.Test.YtodehmbgcncnhaaSFnExactTariffsOk
set_option linter.unusedVariables false
set_option linter.unusedSimpArgs false
namespace Go.Proofs.Ytodehmbgcncnhaa.Pure
open Go.RowKit Go.Proofs.Ytodehmbgcncnhaa.PFnExactTariffsOk Go.Proofs.Ytodehmbgcncnhaa.SFnExactTariffsOk Go.Proofs.YtodehmbgcncnhaaW.PrintWords Go.Proofs.YtodehmbgcncnhaaW.PrintLast Go.Proofs.YtodehmbgcncnhaaW.PrintMore
theorem w64 {x : Int} (h : -9000000000000000000 ≤ x ∧ x ≤ 9000000000000000000) : wrap64 x = x := by unfold wrap64; omega
theorem rd_at (l : List Int) (i : Int) (h0 : 0 ≤ i) (h1 : i < l.length) : l[i.toNat]? = some (rd l i) := by
  simp [rd, List.getD_eq_getElem?_getD, List.getElem?_eq_getElem (show i.toNat < l.length by omega)]

theorem gen_to {α β : Type} (l : List α) (hl : (l.length : Int) ≤ 1048576) (F : Nat → List β → Int → Option (List β)) (g : Int → β)
    (hF : ∀ k m i, 0 ≤ i → i < (l.length : Int) → i < (m.length : Int) → F (k + 1) m i = F k (m.set i.toNat (g i)) (wrap64 (i + 1))) (hE : ∀ k m i, ¬ i < (l.length : Int) → F (k + 1) m i = some m)
    (G : α → β) (hg : ∀ (i : Nat) (h : i < l.length), g i = G l[i]) (d : Nat) : ∀ (i : Int) (m : List β), 0 ≤ i → i ≤ l.length → (l.length : Int) - i = d → m.length = l.length →
    (∀ j : Nat, (j : Int) < i → m[j]? = (l.map G)[j]?) → Ev (fun k => F k m i) (l.map G) := by
  induction d with
  | zero =>
    intro i m h0 h1 hd hm hp
    refine Ev.step (f := fun _ => some (l.map G)) (fun k => ?_) (Ev.now _)
    rw [hE k m i (by omega)]
    congr 1
    apply List.ext_getElem?
    intro j
    by_cases hj : j < l.length
    · exact hp j (by omega)
    · rw [List.getElem?_eq_none (by omega), List.getElem?_eq_none (by simp; omega)]
  | succ d ih =>
    intro i m h0 h1 hd hm hp
    have ei : wrap64 (i + 1) = i + 1 := w64 (by omega)
    refine Ev.step (fun k => ?_) (ih (i + 1) (m.set i.toNat (g i)) (by omega) (by omega) (by omega) (by simpa using hm) ?_)
    · rw [hF k m i h0 (by omega) (by omega), ei]
    · intro j hj
      by_cases e : j = i.toNat
      · subst e
        rw [List.getElem?_set_self (by omega), List.getElem?_map, List.getElem?_eq_getElem (show i.toNat < l.length by omega)]
        have := hg i.toNat (by omega)
        rw [Int.toNat_of_nonneg h0] at this
        rw [this]
        rfl
      · rw [List.getElem?_set_ne (by omega)]
        exact hp j (by omega)
theorem gen_eq {n : Nat} (hl : (n : Int) ≤ 1048576) (F : Nat → Int → Option Bool) (hF : ∀ k i, 0 ≤ i → i < (n : Int) → F (k + 1) i = F k (wrap64 (i + 1))) (hE : ∀ k i, ¬ i < (n : Int) → F (k + 1) i = some true)
    (d : Nat) : ∀ (i : Int), 0 ≤ i → i ≤ n → (n : Int) - i = d → Ev (fun k => F k i) true := by
  induction d with
  | zero =>
    intro i h0 h1 hd
    exact Ev.step (f := fun _ => some true) (fun k => hE k i (by omega)) (Ev.now _)
  | succ d ih =>
    intro i h0 h1 hd
    have ei : wrap64 (i + 1) = i + 1 := w64 (by omega)
    refine Ev.step (fun k => ?_) (ih (i + 1) (by omega) (by omega) (by omega))
    rw [hF k i h0 (by omega), ei]
theorem getD_at {α : Type} (l : List α) (z : α) (i : Nat) (h : i < l.length) : l.getD i z = l[i] := by simp [List.getD_eq_getElem?_getD, h]

def toT (x : S66) : S60 := ⟨x.f0, x.f1, x.f2, x.f3, x.f4⟩
theorem tars_ev (l : List S66) (hl : (l.length : Int) ≤ 1048576) : Ev (fun k => laws_toTariffS.f k l) (l.map toT) := by
  refine Ev.congr (fun k => ?_) (gen_to l hl (fun k m i => laws_toTariffS.l0 k l m i) (fun i => toT (rd_T66 l i)) (fun k m i h0 h1 h2 => ?_) (fun k m i h => ?_) toT (fun i h => ?_) l.length 0 (List.replicate l.length z60) (by omega) (by omega) (by omega) (by simp) (fun j hj => by omega))
  · unfold laws_toTariffS.f
    rw [if_pos (by omega), if_pos (by omega)]
    rfl
  · simp only [laws_toTariffS.l0]
    rw [if_pos h1, if_pos h0]
    simp only [laws_toTariff.f, Option.bind_some]
    rw [if_pos h2]
    rfl
  · simp only [laws_toTariffS.l0]
    rw [if_neg h]
  · show toT (l.getD i z66) = _
    rw [getD_at l z66 i h]
theorem eqT_ev (l : List S60) (hl : (l.length : Int) ≤ 1048576) : Ev (fun k => laws_eqTariffS.f k l l) true := by
  refine Ev.congr (fun k => ?_) (gen_eq (n := l.length) hl (fun k i => laws_eqTariffS.l0 k l l i) (fun k i h0 h1 => ?_) (fun k i h => ?_) l.length 0 (by omega) (by omega) (by omega))
  · unfold laws_eqTariffS.f
    rw [if_pos rfl]
  · simp only [laws_eqTariffS.l0]
    rw [if_pos h1, if_pos h0, if_pos h1]
    simp only [laws_eqTariff.f, if_true, Option.bind_some]
  · simp only [laws_eqTariffS.l0]
    rw [if_neg h]

theorem in_spec (a b c : Int) : spec_l1In.f a b c = some (decide (b ≤ a) && decide (a ≤ c)) := by
  unfold spec_l1In.f
  by_cases q : a ≥ b
  · rw [if_pos q]; simp [q]
  · rw [if_neg q]; simp [q]
def keyOf' (t : S60) : Int × Int := (t.f0, t.f1)
theorem tar_inner (l : List S60) (hl : (l.length : Int) ≤ 1048576) (i : Int) (h0 : 0 ≤ i) (h1 : i < l.length) (a b c e g : Int) (r : Bool)
    (hnext : (a, b) ∉ (l.take i.toNat).map keyOf' → Ev (fun k => spec_TariffsOk.l0 k l (wrap64 (i + 1))) r) (hin : (a, b) ∈ (l.take i.toNat).map keyOf' → r = false) (d : Nat) :
    ∀ j : Int, 0 ≤ j → j ≤ i → i - j = d → (∀ m : Nat, (m : Int) < j → ∀ h : m < l.length, keyOf' l[m] ≠ (a, b)) → Ev (fun k => spec_TariffsOk.l1 k l i j a b c e g) r := by
  induction d with
  | zero =>
    intro j g0 g1 hd hp
    refine Ev.step (fun k => ?_) (hnext ?_)
    · simp only [spec_TariffsOk.l1]
      rw [if_neg (by omega)]
    · intro hm
      obtain ⟨x, hx, he⟩ := List.mem_map.1 hm
      obtain ⟨m, hm2⟩ := List.mem_iff_getElem?.1 hx
      rw [List.getElem?_take] at hm2
      split at hm2
      · rename_i hlt
        have hml : m < l.length := by omega
        rw [List.getElem?_eq_getElem hml] at hm2
        cases hm2
        exact hp m (by omega) hml he
      · cases hm2
  | succ d ih =>
    intro j g0 g1 hd hp
    have ei : wrap64 (j + 1) = j + 1 := w64 (by omega)
    have hj : j.toNat < l.length := by omega
    have hrd : rd_T60 l j = l[j.toNat] := getD_at l z60 j.toNat hj
    by_cases c1 : keyOf' l[j.toNat] = (a, b)
    · refine Ev.step (f := fun _ => some r) (fun k => ?_) (Ev.now _)
      have hr : r = false := by
        apply hin
        rw [← c1]
        refine List.mem_map_of_mem (List.mem_iff_getElem?.2 ⟨j.toNat, ?_⟩)
        rw [List.getElem?_take, if_pos (by omega), List.getElem?_eq_getElem hj]
      simp only [keyOf', Prod.mk.injEq] at c1
      simp only [spec_TariffsOk.l1, hrd]
      rw [if_pos (by omega), if_pos g0, if_pos (by omega), if_pos c1.1, if_pos c1.2, hr]
    · refine Ev.step (fun k => ?_) (ih (j + 1) (by omega) (by omega) (by omega) ?_)
      · simp only [spec_TariffsOk.l1, hrd]
        rw [if_pos (by omega), if_pos g0, if_pos (by omega), ei]
        simp only [keyOf', Prod.mk.injEq] at c1
        by_cases c2 : (l[j.toNat]).f0 = a
        · rw [if_pos c2, if_neg (fun q => c1 ⟨c2, q⟩)]
        · rw [if_neg c2]
      · intro m hm hml
        by_cases e : m = j.toNat
        · subst e; exact c1
        · exact hp m (by omega) hml
theorem tar_outer (l : List S60) (hl : (l.length : Int) ≤ 1048576) (d : Nat) : ∀ i : Int, 0 ≤ i → i ≤ l.length → (l.length : Int) - i = d →
    Ev (fun k => spec_TariffsOk.l0 k l i) (tarOk ((l.take i.toNat).map keyOf') (l.drop i.toNat) && decide (l.length ≤ 40)) := by
  induction d with
  | zero =>
    intro i h0 h1 hd
    have e : l.drop i.toNat = [] := List.drop_eq_nil_iff.2 (by omega)
    rw [e, tarOk]
    refine Ev.step (f := fun _ => some (true && decide (l.length ≤ 40))) (fun k => ?_) (Ev.now _)
    simp only [spec_TariffsOk.l0]
    rw [if_neg (by omega)]
    congr 1
    simp
    try omega
  | succ d ih =>
    intro i h0 h1 hd
    have ei : wrap64 (i + 1) = i + 1 := w64 (by omega)
    have hi : i.toNat < l.length := by omega
    have hrd : rd_T60 l i = l[i.toNat] := getD_at l z60 i.toNat hi
    have ih' := ih (i + 1) (by omega) (by omega) (by omega)
    rw [← ei] at ih'
    have e1 : (wrap64 (i + 1)).toNat = i.toNat + 1 := by omega
    rw [e1, List.take_succ_eq_append_getElem hi, List.map_append, List.map_singleton] at ih'
    rw [List.drop_eq_getElem_cons hi, tarOk]
    generalize l[i.toNat] = t at *
    have hone : ∀ x : Bool × Bool × Bool × Bool × Bool, (x.1 && x.2.1 && x.2.2.1 && x.2.2.2.1 && x.2.2.2.2) = true ↔ x = (true, true, true, true, true) := by
      rintro ⟨x1, x2, x3, x4, x5⟩
      cases x1 <;> cases x2 <;> cases x3 <;> cases x4 <;> cases x5 <;> simp
    by_cases ht : tarOne t = true
    · simp only [ht, true_and]
      have IN : Ev (fun k => spec_TariffsOk.l1 k l i 0 t.f0 t.f1 t.f2 t.f3 t.f4) ((if (t.f0, t.f1) ∉ (l.take i.toNat).map keyOf' then tarOk ((l.take i.toNat).map keyOf' ++ [(t.f0, t.f1)]) (l.drop (i.toNat + 1)) else false) && decide (l.length ≤ 40)) := by
        refine tar_inner l hl i h0 (by omega) _ _ _ _ _ _ (fun hn => ?_) (fun hn => ?_) i.toNat 0 (by omega) (by omega) (by omega) (fun m hm => by omega)
        · rw [if_pos hn]
          exact ih'
        · rw [if_neg (fun q => q hn)]
          rfl
      refine Ev.step (f := fun k => spec_TariffsOk.j1 k l i false t.f0 t.f1 t.f2 t.f3 t.f4) (fun k => ?_) (Ev.step (fun k => ?_) IN)
      · simp only [spec_TariffsOk.l0, hrd, in_spec, Option.bind_some]
        rw [if_pos (by omega), if_pos h0]
        unfold tarOne at ht
        simp only [Bool.and_eq_true, decide_eq_true_eq] at ht
        obtain ⟨⟨⟨⟨⟨⟨⟨⟨⟨q0, q1⟩, q2⟩, q3⟩, q4⟩, q5⟩, q6⟩, q7⟩, q8⟩, q9⟩ := ht
        simp [q0, q1, q2, q3, q4, q5, q6, q7, q8, q9]
      · simp only [spec_TariffsOk.j1, Bool.false_eq_true, if_false]
    · rw [if_neg (fun q => ht q.1)]
      refine Ev.step (f := fun k => spec_TariffsOk.j1 k l i true t.f0 t.f1 t.f2 t.f3 t.f4) (fun k => ?_) (Ev.step (f := fun _ => some false) (fun k => ?_) (Ev.now _))
      · simp only [spec_TariffsOk.l0, hrd, in_spec, Option.bind_some]
        rw [if_pos (by omega), if_pos h0]
        unfold tarOne at ht
        obtain ⟨R, HR⟩ : ∃ R, R = spec_TariffsOk.j1 k l i true t.f0 t.f1 t.f2 t.f3 t.f4 := ⟨_, rfl⟩
        simp only [← HR]
        have hgo : ∀ q1 q2 q3 q4 q5 : Bool, ¬ (q1 && q2 && q3 && q4 && q5) = true → ∀ f : Bool → Option Bool, f true = R → (if q1 = true then if q2 = true then if q3 = true then if q4 = true then f (!q5) else R else R else R else R) = R := by
          intro q1 q2 q3 q4 q5 hq f hf
          cases q1 <;> cases q2 <;> cases q3 <;> cases q4 <;> cases q5 <;> simp_all
        refine hgo _ _ _ _ _ (fun q => ht ?_) (fun b => spec_TariffsOk.j1 k l i b t.f0 t.f1 t.f2 t.f3 t.f4) HR.symm
        simpa only [Bool.and_assoc] using q
      · simp only [spec_TariffsOk.j1, if_true]
theorem tar_spec (l : List S60) (hl : (l.length : Int) ≤ 1048576) : Ev (fun k => spec_TariffsOk.f k l) (tarOk [] l && decide (l.length ≤ 40)) := by
  have := tar_outer l hl l.length 0 (by omega) (by omega) (by omega)
  refine Ev.congr (fun k => ?_) this
  rfl

theorem FnExactTariffsOk : SFnExactTariffsOk.Pure := by
  intro l hl0
  apply Ev.rounds
  by_cases h : wrap64 (1048576 - (l.length : Int)) < 0
  · refine Ev.congr (f := fun _ => some true) (fun k => ?_) (Ev.now _)
    simp [laws_FnExactTariffsOk.f, laws_szTariffS.f, if_pos h]
  · have hm : l.length ≤ maxLen := hl0.2
    have hl : (l.length : Int) ≤ 1048576 := by unfold maxLen at hm; unfold wrap64 at h; omega
    have hT := tars_ev l hl
    have hl2 : ((l.map toT).length : Int) ≤ 1048576 := by simpa using hl
    refine Ev.congr (f := fun k => (laws_toTariffS.f k l).bind fun t129 => (spec_TariffsOk.f k t129).bind fun t132 => (laws_toTariffS.f k l).bind fun t133 => (impl_TariffsOk.f t133).bind fun t136 => if (t136 != t132) = true then some false else (laws_toTariffS.f k l).bind fun t137 => (laws_eqTariffS.f k t133 t137).bind fun t140 => if t140 = true then some true else some false) (fun k => ?_) ?_
    · simp only [laws_FnExactTariffsOk.f, laws_szTariffS.f, if_neg h, Option.bind_some]
    · refine Ev.bind hT (Ev.bind (tar_spec _ hl2) (Ev.bind hT ?_))
      have hI : impl_TariffsOk.f (l.map toT) = some (tarOk [] (l.map toT) && decide ((l.map toT).length ≤ 40)) := by rw [impl_TariffsOk.f, if_pos (by omega)]
      simp only [hI, Option.bind_some, bne_self_eq_false, Bool.false_eq_true, if_false]
      exact Ev.bind hT (Ev.bind (eqT_ev _ hl2) (Ev.now _))

end Go.Proofs.Ytodehmbgcncnhaa.Pure
