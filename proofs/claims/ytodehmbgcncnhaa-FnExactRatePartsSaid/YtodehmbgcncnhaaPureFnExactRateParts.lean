/- RateParts of the program and of the reference agree at every list, zone, pair of ticks and list of cuts, and leave what came in as it was. No condition. -/
import Derived.Test.YtodehmbgcncnhaaSFnExactRateParts
set_option linter.unusedVariables false
set_option linter.unusedSimpArgs false
namespace Go.Proofs.Ytodehmbgcncnhaa.Pure
open Go.RowKit Go.Proofs.Ytodehmbgcncnhaa.PFnExactRateParts Go.Proofs.Ytodehmbgcncnhaa.SFnExactRateParts Go.Proofs.YtodehmbgcncnhaaW.PrintWords Go.Proofs.YtodehmbgcncnhaaW.PrintLast Go.Proofs.YtodehmbgcncnhaaW.PrintMore
theorem w64 {x : Int} (h : -9000000000000000000 ≤ x ∧ x ≤ 9000000000000000000) : wrap64 x = x := by unfold wrap64; omega
theorem rd_at (l : List Int) (i : Int) (h0 : 0 ≤ i) (h1 : i < l.length) : l[i.toNat]? = some (rd l i) := by
  simp [rd, List.getD_eq_getElem?_getD, List.getElem?_eq_getElem (show i.toNat < l.length by omega)]

theorem gen_to {α β : Type} (l : List α) (hl : (l.length : Int) ≤ 1048576) (F : Nat → List β → Int → Option (List β)) (g : Int → β)
    (hF : ∀ k m i, 0 ≤ i → i < (l.length : Int) → i < (m.length : Int) → F (k + 1) m i = F k (m.set i.toNat (g i)) (wrap64 (i + 1))) (hE : ∀ k m i, ¬ i < (l.length : Int) → F (k + 1) m i = some m)
    (G : α → β) (hg : ∀ (i : Nat) (h : i < l.length), g i = G l[i]) (d : Nat) : ∀ (i : Int) (m : List β), 0 ≤ i → i ≤ l.length → (l.length : Int) - i = d → m.length = l.length →
    (∀ j : Nat, (j : Int) < i → m[j]? = (l.map G)[j]?) → Ev (fun k => F k m i) (l.map G) := by
  induction d with
  | zero =>
    intro i m h0 h1 hd hm hp
    refine Ev.step (f := fun _ => some (l.map G)) (fun k => ?_) (Ev.now _)
    rw [hE k m i (by omega)]
    congr 1
    apply List.ext_getElem?
    intro j
    by_cases hj : j < l.length
    · exact hp j (by omega)
    · rw [List.getElem?_eq_none (by omega), List.getElem?_eq_none (by simp; omega)]
  | succ d ih =>
    intro i m h0 h1 hd hm hp
    have ei : wrap64 (i + 1) = i + 1 := w64 (by omega)
    refine Ev.step (fun k => ?_) (ih (i + 1) (m.set i.toNat (g i)) (by omega) (by omega) (by omega) (by simpa using hm) ?_)
    · rw [hF k m i h0 (by omega) (by omega), ei]
    · intro j hj
      by_cases e : j = i.toNat
      · subst e
        rw [List.getElem?_set_self (by omega), List.getElem?_map, List.getElem?_eq_getElem (show i.toNat < l.length by omega)]
        have := hg i.toNat (by omega)
        rw [Int.toNat_of_nonneg h0] at this
        rw [this]
        rfl
      · rw [List.getElem?_set_ne (by omega)]
        exact hp j (by omega)
theorem gen_eq {n : Nat} (hl : (n : Int) ≤ 1048576) (F : Nat → Int → Option Bool) (hF : ∀ k i, 0 ≤ i → i < (n : Int) → F (k + 1) i = F k (wrap64 (i + 1))) (hE : ∀ k i, ¬ i < (n : Int) → F (k + 1) i = some true)
    (d : Nat) : ∀ (i : Int), 0 ≤ i → i ≤ n → (n : Int) - i = d → Ev (fun k => F k i) true := by
  induction d with
  | zero =>
    intro i h0 h1 hd
    exact Ev.step (f := fun _ => some true) (fun k => hE k i (by omega)) (Ev.now _)
  | succ d ih =>
    intro i h0 h1 hd
    have ei : wrap64 (i + 1) = i + 1 := w64 (by omega)
    refine Ev.step (fun k => ?_) (ih (i + 1) (by omega) (by omega) (by omega))
    rw [hF k i h0 (by omega), ei]
theorem getD_at {α : Type} (l : List α) (z : α) (i : Nat) (h : i < l.length) : l.getD i z = l[i] := by simp [List.getD_eq_getElem?_getD, h]

def toT (x : S66) : S60 := ⟨x.f0, x.f1, x.f2, x.f3, x.f4⟩
theorem tars_ev (l : List S66) (hl : (l.length : Int) ≤ 1048576) : Ev (fun k => laws_toTariffS.f k l) (l.map toT) := by
  refine Ev.congr (fun k => ?_) (gen_to l hl (fun k m i => laws_toTariffS.l0 k l m i) (fun i => toT (rd_T66 l i)) (fun k m i h0 h1 h2 => ?_) (fun k m i h => ?_) toT (fun i h => ?_) l.length 0 (List.replicate l.length z60) (by omega) (by omega) (by omega) (by simp) (fun j hj => by omega))
  · unfold laws_toTariffS.f
    rw [if_pos (by omega), if_pos (by omega)]
    rfl
  · simp only [laws_toTariffS.l0]
    rw [if_pos h1, if_pos h0]
    simp only [laws_toTariff.f, Option.bind_some]
    rw [if_pos h2]
    rfl
  · simp only [laws_toTariffS.l0]
    rw [if_neg h]
  · show toT (l.getD i z66) = _
    rw [getD_at l z66 i h]
theorem eqT_ev (l : List S60) (hl : (l.length : Int) ≤ 1048576) : Ev (fun k => laws_eqTariffS.f k l l) true := by
  refine Ev.congr (fun k => ?_) (gen_eq (n := l.length) hl (fun k i => laws_eqTariffS.l0 k l l i) (fun k i h0 h1 => ?_) (fun k i h => ?_) l.length 0 (by omega) (by omega) (by omega))
  · unfold laws_eqTariffS.f
    rw [if_pos rfl]
  · simp only [laws_eqTariffS.l0]
    rw [if_pos h1, if_pos h0, if_pos h1]
    simp only [laws_eqTariff.f, if_true, Option.bind_some]
  · simp only [laws_eqTariffS.l0]
    rw [if_neg h]

theorem in_spec (a b c : Int) : spec_l1In.f a b c = some (decide (b ≤ a) && decide (a ≤ c)) := by
  unfold spec_l1In.f
  by_cases q : a ≥ b
  · rw [if_pos q]; simp [q]
  · rw [if_neg q]; simp [q]
def keyOf' (t : S60) : Int × Int := (t.f0, t.f1)
theorem tar_inner (l : List S60) (hl : (l.length : Int) ≤ 1048576) (i : Int) (h0 : 0 ≤ i) (h1 : i < l.length) (a b c e g : Int) (r : Bool)
    (hnext : (a, b) ∉ (l.take i.toNat).map keyOf' → Ev (fun k => spec_TariffsOk.l0 k l (wrap64 (i + 1))) r) (hin : (a, b) ∈ (l.take i.toNat).map keyOf' → r = false) (d : Nat) :
    ∀ j : Int, 0 ≤ j → j ≤ i → i - j = d → (∀ m : Nat, (m : Int) < j → ∀ h : m < l.length, keyOf' l[m] ≠ (a, b)) → Ev (fun k => spec_TariffsOk.l1 k l i j a b c e g) r := by
  induction d with
  | zero =>
    intro j g0 g1 hd hp
    refine Ev.step (fun k => ?_) (hnext ?_)
    · simp only [spec_TariffsOk.l1]
      rw [if_neg (by omega)]
    · intro hm
      obtain ⟨x, hx, he⟩ := List.mem_map.1 hm
      obtain ⟨m, hm2⟩ := List.mem_iff_getElem?.1 hx
      rw [List.getElem?_take] at hm2
      split at hm2
      · rename_i hlt
        have hml : m < l.length := by omega
        rw [List.getElem?_eq_getElem hml] at hm2
        cases hm2
        exact hp m (by omega) hml he
      · cases hm2
  | succ d ih =>
    intro j g0 g1 hd hp
    have ei : wrap64 (j + 1) = j + 1 := w64 (by omega)
    have hj : j.toNat < l.length := by omega
    have hrd : rd_T60 l j = l[j.toNat] := getD_at l z60 j.toNat hj
    by_cases c1 : keyOf' l[j.toNat] = (a, b)
    · refine Ev.step (f := fun _ => some r) (fun k => ?_) (Ev.now _)
      have hr : r = false := by
        apply hin
        rw [← c1]
        refine List.mem_map_of_mem (List.mem_iff_getElem?.2 ⟨j.toNat, ?_⟩)
        rw [List.getElem?_take, if_pos (by omega), List.getElem?_eq_getElem hj]
      simp only [keyOf', Prod.mk.injEq] at c1
      simp only [spec_TariffsOk.l1, hrd]
      rw [if_pos (by omega), if_pos g0, if_pos (by omega), if_pos c1.1, if_pos c1.2, hr]
    · refine Ev.step (fun k => ?_) (ih (j + 1) (by omega) (by omega) (by omega) ?_)
      · simp only [spec_TariffsOk.l1, hrd]
        rw [if_pos (by omega), if_pos g0, if_pos (by omega), ei]
        simp only [keyOf', Prod.mk.injEq] at c1
        by_cases c2 : (l[j.toNat]).f0 = a
        · rw [if_pos c2, if_neg (fun q => c1 ⟨c2, q⟩)]
        · rw [if_neg c2]
      · intro m hm hml
        by_cases e : m = j.toNat
        · subst e; exact c1
        · exact hp m (by omega) hml
theorem tar_outer (l : List S60) (hl : (l.length : Int) ≤ 1048576) (d : Nat) : ∀ i : Int, 0 ≤ i → i ≤ l.length → (l.length : Int) - i = d →
    Ev (fun k => spec_TariffsOk.l0 k l i) (tarOk ((l.take i.toNat).map keyOf') (l.drop i.toNat) && decide (l.length ≤ 40)) := by
  induction d with
  | zero =>
    intro i h0 h1 hd
    have e : l.drop i.toNat = [] := List.drop_eq_nil_iff.2 (by omega)
    rw [e, tarOk]
    refine Ev.step (f := fun _ => some (true && decide (l.length ≤ 40))) (fun k => ?_) (Ev.now _)
    simp only [spec_TariffsOk.l0]
    rw [if_neg (by omega)]
    congr 1
    simp
    try omega
  | succ d ih =>
    intro i h0 h1 hd
    have ei : wrap64 (i + 1) = i + 1 := w64 (by omega)
    have hi : i.toNat < l.length := by omega
    have hrd : rd_T60 l i = l[i.toNat] := getD_at l z60 i.toNat hi
    have ih' := ih (i + 1) (by omega) (by omega) (by omega)
    rw [← ei] at ih'
    have e1 : (wrap64 (i + 1)).toNat = i.toNat + 1 := by omega
    rw [e1, List.take_succ_eq_append_getElem hi, List.map_append, List.map_singleton] at ih'
    rw [List.drop_eq_getElem_cons hi, tarOk]
    generalize l[i.toNat] = t at *
    have hone : ∀ x : Bool × Bool × Bool × Bool × Bool, (x.1 && x.2.1 && x.2.2.1 && x.2.2.2.1 && x.2.2.2.2) = true ↔ x = (true, true, true, true, true) := by
      rintro ⟨x1, x2, x3, x4, x5⟩
      cases x1 <;> cases x2 <;> cases x3 <;> cases x4 <;> cases x5 <;> simp
    by_cases ht : tarOne t = true
    · simp only [ht, true_and]
      have IN : Ev (fun k => spec_TariffsOk.l1 k l i 0 t.f0 t.f1 t.f2 t.f3 t.f4) ((if (t.f0, t.f1) ∉ (l.take i.toNat).map keyOf' then tarOk ((l.take i.toNat).map keyOf' ++ [(t.f0, t.f1)]) (l.drop (i.toNat + 1)) else false) && decide (l.length ≤ 40)) := by
        refine tar_inner l hl i h0 (by omega) _ _ _ _ _ _ (fun hn => ?_) (fun hn => ?_) i.toNat 0 (by omega) (by omega) (by omega) (fun m hm => by omega)
        · rw [if_pos hn]
          exact ih'
        · rw [if_neg (fun q => q hn)]
          rfl
      refine Ev.step (f := fun k => spec_TariffsOk.j1 k l i false t.f0 t.f1 t.f2 t.f3 t.f4) (fun k => ?_) (Ev.step (fun k => ?_) IN)
      · simp only [spec_TariffsOk.l0, hrd, in_spec, Option.bind_some]
        rw [if_pos (by omega), if_pos h0]
        unfold tarOne at ht
        simp only [Bool.and_eq_true, decide_eq_true_eq] at ht
        obtain ⟨⟨⟨⟨⟨⟨⟨⟨⟨q0, q1⟩, q2⟩, q3⟩, q4⟩, q5⟩, q6⟩, q7⟩, q8⟩, q9⟩ := ht
        simp [q0, q1, q2, q3, q4, q5, q6, q7, q8, q9]
      · simp only [spec_TariffsOk.j1, Bool.false_eq_true, if_false]
    · rw [if_neg (fun q => ht q.1)]
      refine Ev.step (f := fun k => spec_TariffsOk.j1 k l i true t.f0 t.f1 t.f2 t.f3 t.f4) (fun k => ?_) (Ev.step (f := fun _ => some false) (fun k => ?_) (Ev.now _))
      · simp only [spec_TariffsOk.l0, hrd, in_spec, Option.bind_some]
        rw [if_pos (by omega), if_pos h0]
        unfold tarOne at ht
        obtain ⟨R, HR⟩ : ∃ R, R = spec_TariffsOk.j1 k l i true t.f0 t.f1 t.f2 t.f3 t.f4 := ⟨_, rfl⟩
        simp only [← HR]
        have hgo : ∀ q1 q2 q3 q4 q5 : Bool, ¬ (q1 && q2 && q3 && q4 && q5) = true → ∀ f : Bool → Option Bool, f true = R → (if q1 = true then if q2 = true then if q3 = true then if q4 = true then f (!q5) else R else R else R else R) = R := by
          intro q1 q2 q3 q4 q5 hq f hf
          cases q1 <;> cases q2 <;> cases q3 <;> cases q4 <;> cases q5 <;> simp_all
        refine hgo _ _ _ _ _ (fun q => ht ?_) (fun b => spec_TariffsOk.j1 k l i b t.f0 t.f1 t.f2 t.f3 t.f4) HR.symm
        simpa only [Bool.and_assoc] using q
      · simp only [spec_TariffsOk.j1, if_true]
theorem tar_spec (l : List S60) (hl : (l.length : Int) ≤ 1048576) : Ev (fun k => spec_TariffsOk.f k l) (tarOk [] l && decide (l.length ≤ 40)) := by
  have := tar_outer l hl l.length 0 (by omega) (by omega) (by omega)
  refine Ev.congr (fun k => ?_) this
  rfl

def lastOf (l : List S60) (last i : Int) : Int := if last < 0 ∨ (rd_T60 l i).f1 > (rd_T60 l last).f1 then i else last
def bestOk (l : List S60) (tick best i : Int) : Prop := (rd_T60 l i).f1 ≤ tick ∧ (best < 0 ∨ (rd_T60 l i).f1 > (rd_T60 l best).f1)
instance (l : List S60) (tick best i : Int) : Decidable (bestOk l tick best i) := by unfold bestOk; infer_instance
def bestOf (l : List S60) (tick best i : Int) : Int := if bestOk l tick best i then i else best
/-- The tariff in force: 'd' of the list are left, from place i. -/
def atFrom (l : List S60) (zone tick : Int) : Nat → Int → Int → Int → Int
  | 0, _, best, last => if best < 0 then last else best
  | d + 1, i, best, last => if (rd_T60 l i).f0 = zone then atFrom l zone tick d (i + 1) (bestOf l tick best i) (lastOf l last i) else atFrom l zone tick d (i + 1) best last
theorem lastOf_in (l : List S60) (last i : Int) (h0 : 0 ≤ i) (h : -1 ≤ last ∧ last < i) : -1 ≤ lastOf l last i ∧ lastOf l last i < i + 1 := by unfold lastOf; split <;> omega
theorem bestOf_in (l : List S60) (tick best i : Int) (h0 : 0 ≤ i) (h : -1 ≤ best ∧ best < i) : -1 ≤ bestOf l tick best i ∧ bestOf l tick best i < i + 1 := by unfold bestOf; split <;> omega
theorem atFrom_in (l : List S60) (zone tick : Int) : ∀ (d : Nat) (i best last : Int), 0 ≤ i → (-1 ≤ best ∧ best < i) → (-1 ≤ last ∧ last < i) → -1 ≤ atFrom l zone tick d i best last ∧ atFrom l zone tick d i best last < i + d
  | 0, i, best, last, h0, hb, hl => by unfold atFrom; split <;> omega
  | d + 1, i, best, last, h0, hb, hl => by
    unfold atFrom
    split
    · have := atFrom_in l zone tick d (i + 1) (bestOf l tick best i) (lastOf l last i) (by omega) (bestOf_in l tick best i h0 hb) (lastOf_in l last i h0 hl)
      omega
    · have := atFrom_in l zone tick d (i + 1) best last (by omega) (by omega) (by omega)
      omega
theorem specAt_j2 (l : List S60) (k : Nat) (zone tick best last i : Int) (b : Bool) (h0 : 0 ≤ i) (h1 : i < l.length) (hl : -1 ≤ last ∧ last < i) :
    spec_TariffAt.j2 (k + 1) l zone tick best last i b = spec_TariffAt.l0 k l zone tick (if b = true then i else best) (lastOf l last i) (wrap64 (i + 1)) := by
  have hll : last < (l.length : Int) := by omega
  unfold lastOf
  cases b
  · by_cases c : last < 0
    · simp [spec_TariffAt.j2, c]
    · have c0 : 0 ≤ last := by omega
      by_cases c2 : (rd_T60 l i).f1 > (rd_T60 l last).f1 <;> simp [spec_TariffAt.j2, c, c0, h0, h1, hll, c2]
  · by_cases c : last < 0
    · simp [spec_TariffAt.j2, c]
    · have c0 : 0 ≤ last := by omega
      by_cases c2 : (rd_T60 l i).f1 > (rd_T60 l last).f1 <;> simp [spec_TariffAt.j2, c, c0, h0, h1, hll, c2]
theorem specAt_l0 (l : List S60) (k : Nat) (zone tick best last i : Int) (h0 : 0 ≤ i) (h1 : i < l.length) (hb : -1 ≤ best ∧ best < i) (cz : (rd_T60 l i).f0 = zone) :
    spec_TariffAt.l0 (k + 1) l zone tick best last i = spec_TariffAt.j2 k l zone tick best last i (decide (bestOk l tick best i)) := by
  have hbl : best < (l.length : Int) := by omega
  have hd : ∀ b : Bool, (b = true ↔ bestOk l tick best i) → decide (bestOk l tick best i) = b := by intro b hb; rw [Bool.eq_iff_iff, hb]; simp
  simp only [spec_TariffAt.l0]
  rw [if_pos h1, if_pos h0, if_pos cz]
  by_cases c1 : (rd_T60 l i).f1 ≤ tick
  · rw [if_pos c1]
    by_cases c2 : best < 0
    · rw [if_pos c2, hd true (by simp [bestOk, c1, c2])]
    · rw [if_neg c2, if_pos (by omega), if_pos hbl, hd (decide ((rd_T60 l i).f1 > (rd_T60 l best).f1)) (by simp [bestOk, c1, c2])]
  · rw [if_neg c1, hd false (by simp [bestOk, c1])]
theorem specAt_loop (l : List S60) (hl : (l.length : Int) ≤ 1048576) (zone tick : Int) (d : Nat) : ∀ (i best last : Int), 0 ≤ i → (l.length : Int) - i = d → (-1 ≤ best ∧ best < i) → (-1 ≤ last ∧ last < i) →
    Ev (fun k => spec_TariffAt.l0 k l zone tick best last i) (atFrom l zone tick d i best last, decide (atFrom l zone tick d i best last ≥ 0)) := by
  induction d with
  | zero =>
    intro i best last h0 hd hb hla
    unfold atFrom
    refine Ev.step (f := fun _ => some (if best < 0 then last else best, decide ((if best < 0 then last else best) ≥ 0))) (fun k => ?_) (Ev.now _)
    simp only [spec_TariffAt.l0]
    rw [if_neg (by omega)]
    split <;> rfl
  | succ d ih =>
    intro i best last h0 hd hb hla
    have ei : wrap64 (i + 1) = i + 1 := w64 (by omega)
    unfold atFrom
    by_cases cz : (rd_T60 l i).f0 = zone
    · rw [if_pos cz]
      refine Ev.step (fun k => specAt_l0 l k zone tick best last i h0 (by omega) hb cz) (Ev.step (fun k => specAt_j2 l k zone tick best last i _ h0 (by omega) hla) ?_)
      rw [ei]
      have e : (if decide (bestOk l tick best i) = true then i else best) = bestOf l tick best i := by unfold bestOf; simp only [decide_eq_true_eq]
      rw [e]
      exact ih (i + 1) _ _ (by omega) (by omega) (bestOf_in l tick best i h0 hb) (lastOf_in l last i h0 hla)
    · rw [if_neg cz]
      refine Ev.step (fun k => ?_) (ih (i + 1) best last (by omega) (by omega) (by omega) (by omega))
      simp only [spec_TariffAt.l0]
      rw [if_pos (by omega), if_pos h0, if_neg cz, ei]

theorem imAt_j1 (l : List S60) (k : Nat) (zone t best last i : Int) (b : Bool) (h0 : 0 ≤ i) (h1 : i < l.length) (hb : -1 ≤ best ∧ best < i) :
    impl_tariffAt.j1 (k + 1) l zone t best last i l l.length i b (rd_T60 l i).f0 (rd_T60 l i).f1 (rd_T60 l i).f2 (rd_T60 l i).f3 (rd_T60 l i).f4 = impl_tariffAt.l0 k l zone t (bestOf l (Int.tmod t 86400) best i) (if b = true then i else last) l l.length (wrap64 (i + 1)) := by
  have hbl : best < (l.length : Int) := by omega
  unfold bestOf bestOk
  cases b <;> by_cases c1 : (rd_T60 l i).f1 ≤ Int.tmod t 86400 <;> by_cases c2 : best < 0 <;> (try simp [impl_tariffAt.j1, c1, c2]) <;> (have c0 : 0 ≤ best := by omega) <;> by_cases c3 : (rd_T60 l i).f1 > (rd_T60 l best).f1 <;> simp [c0, hbl, c3]
theorem imAt_l0 (l : List S60) (k : Nat) (zone t best last i : Int) (h0 : 0 ≤ i) (h1 : i < l.length) (hla : -1 ≤ last ∧ last < i) (cz : (rd_T60 l i).f0 = zone) :
    impl_tariffAt.l0 (k + 1) l zone t best last l l.length i = impl_tariffAt.j1 k l zone t best last i l l.length i (decide (last < 0 ∨ (rd_T60 l i).f1 > (rd_T60 l last).f1)) (rd_T60 l i).f0 (rd_T60 l i).f1 (rd_T60 l i).f2 (rd_T60 l i).f3 (rd_T60 l i).f4 := by
  have hll : last < (l.length : Int) := by omega
  simp only [impl_tariffAt.l0]
  rw [if_pos h1, if_pos h0, if_pos h1, if_pos cz]
  by_cases c2 : last < 0
  · rw [if_pos c2]; simp [c2]
  · rw [if_neg c2, if_pos (by omega), if_pos hll]; simp [c2]
theorem imAt_loop (l : List S60) (hl : (l.length : Int) ≤ 1048576) (zone t : Int) (d : Nat) : ∀ (i best last : Int), 0 ≤ i → (l.length : Int) - i = d → (-1 ≤ best ∧ best < i) → (-1 ≤ last ∧ last < i) →
    Ev (fun k => impl_tariffAt.l0 k l zone t best last l l.length i) (atFrom l zone (Int.tmod t 86400) d i best last) := by
  induction d with
  | zero =>
    intro i best last h0 hd hb hla
    unfold atFrom
    refine Ev.step (f := fun _ => some (if best < 0 then last else best)) (fun k => ?_) (Ev.now _)
    simp only [impl_tariffAt.l0]
    rw [if_neg (by omega)]
    split <;> rfl
  | succ d ih =>
    intro i best last h0 hd hb hla
    have ei : wrap64 (i + 1) = i + 1 := w64 (by omega)
    unfold atFrom
    by_cases cz : (rd_T60 l i).f0 = zone
    · rw [if_pos cz]
      refine Ev.step (fun k => imAt_l0 l k zone t best last i h0 (by omega) hla cz) (Ev.step (fun k => imAt_j1 l k zone t best last i _ h0 (by omega) hb) ?_)
      rw [ei]
      have e : (if decide (last < 0 ∨ (rd_T60 l i).f1 > (rd_T60 l last).f1) = true then i else last) = lastOf l last i := by unfold lastOf; simp only [decide_eq_true_eq]
      rw [e]
      exact ih (i + 1) _ _ (by omega) (by omega) (bestOf_in l _ best i h0 hb) (lastOf_in l last i h0 hla)
    · rw [if_neg cz]
      refine Ev.step (fun k => ?_) (ih (i + 1) best last (by omega) (by omega) (by omega) (by omega))
      simp only [impl_tariffAt.l0]
      rw [if_pos (by omega), if_pos h0, if_pos (by omega), if_neg cz, ei]

theorem in_impl (a b c : Int) : impl_in.f a b c = some (decide (b ≤ a) && decide (a ≤ c)) := by
  unfold impl_in.f
  by_cases q : a ≥ b
  · rw [if_pos q]; simp [q]
  · rw [if_neg q]; simp [q]
theorem tick_spec (a : Int) : spec_l4Tick.f a = some (decide (0 ≤ a) && decide (a ≤ 1000000000)) := by simp only [spec_l4Tick.f, in_spec, Option.bind_some]
def tarV (l : List S60) : Bool := tarOk [] l && decide (l.length ≤ 40)
def tickV (t : Int) : Bool := decide (0 ≤ t) && decide (t ≤ 1000000000)
def atV (l : List S60) (zone t : Int) : Int := atFrom l zone (Int.tmod t 86400) l.length 0 (-1) (-1)
def tariffAt (l : List S60) (zone t : Int) : Int × Bool := if (tarV l && tickV t) = true then (atV l zone t, decide (atV l zone t ≥ 0)) else (-1, false)
theorem at_spec (l : List S60) (hl : (l.length : Int) ≤ 1048576) (zone t : Int) : Ev (fun k => spec_TariffAt.f k l zone t) (tariffAt l zone t) := by
  have J : ∀ b : Bool, Ev (fun k => spec_TariffAt.j0 k l zone t (!b)) (if b = true then (atV l zone t, decide (atV l zone t ≥ 0)) else (-1, false)) := by
    intro b
    cases b
    · exact Ev.step (f := fun _ => some (-1, false)) (fun k => by simp only [spec_TariffAt.j0, Bool.not_false, if_true]) (Ev.now _)
    · exact Ev.step (fun k => by simp only [spec_TariffAt.j0, Bool.not_true, Bool.false_eq_true, if_false]) (specAt_loop l hl zone _ l.length 0 (-1) (-1) (by omega) (by omega) (by omega) (by omega))
  refine Ev.congr (f := fun k => (spec_TariffsOk.f k l).bind fun t129 => if t129 = true then spec_TariffAt.j0 k l zone t (!tickV t) else spec_TariffAt.j0 k l zone t (!false)) (fun k => ?_) (Ev.bind (tar_spec l hl) ?_)
  · unfold spec_TariffAt.f
    simp only [tick_spec, Option.bind_some, Bool.not_false]
    rfl
  · unfold tariffAt
    rw [show (tarOk [] l && decide (l.length ≤ 40)) = tarV l from rfl]
    cases tarV l
    · simp only [Bool.false_and, Bool.false_eq_true, if_false]; exact J false
    · simp only [Bool.true_and, if_true]; exact J (tickV t)
theorem at_impl0 (l : List S60) (hl : (l.length : Int) ≤ 1048576) (zone t : Int) : Ev (fun k => impl_tariffAt.f k l zone t) (atV l zone t) :=
  imAt_loop l hl zone t l.length 0 (-1) (-1) (by omega) (by omega) (by omega) (by omega)
theorem tarok_impl (l : List S60) (hl : (l.length : Int) ≤ 1048576) : impl_TariffsOk.f l = some (tarV l) := by rw [impl_TariffsOk.f, if_pos (by omega)]; rfl
theorem at_impl (l : List S60) (hl : (l.length : Int) ≤ 1048576) (zone t : Int) : Ev (fun k => impl_TariffAt.f k l zone t) (tariffAt l zone t) := by
  refine Ev.congr (f := fun k => if tarV l = true then (if tickV t = true then (impl_tariffAt.f k l zone t).bind fun t146 => some (t146, decide (t146 ≥ 0)) else some (-1, false)) else some (-1, false)) (fun k => ?_) ?_
  · unfold impl_TariffAt.f
    simp only [tarok_impl l hl, in_impl, Option.bind_some]
    rfl
  · unfold tariffAt
    cases tarV l
    · simp only [Bool.false_and, Bool.false_eq_true, if_false]; exact Ev.now _
    · simp only [Bool.true_and, if_true]
      cases tickV t
      · simp only [Bool.false_eq_true, if_false]; exact Ev.now _
      · simp only [if_true]; exact Ev.bind (at_impl0 l hl zone t) (Ev.now _)
theorem szT {l : List S66} (h : ¬ wrap64 (1048576 - (l.length : Int)) < 0) (hm : l.length ≤ maxLen) : (l.length : Int) ≤ 1048576 := by unfold maxLen at hm; unfold wrap64 at h; omega

def zoneIn (l : List S60) (zone : Int) : Nat → Int → Prop
  | 0, _ => False
  | d + 1, i => (rd_T60 l i).f0 = zone ∨ zoneIn l zone d (i + 1)
theorem atFrom_pos (l : List S60) (zone tick : Int) : ∀ (d : Nat) (i best last : Int), 0 ≤ i → (0 ≤ best → 0 ≤ last) → (0 ≤ atFrom l zone tick d i best last ↔ zoneIn l zone d i ∨ 0 ≤ last)
  | 0, i, best, last, h0, h => by
    unfold atFrom zoneIn
    split <;> simp <;> omega
  | d + 1, i, best, last, h0, h => by
    have hz : zoneIn l zone (d + 1) i ↔ (rd_T60 l i).f0 = zone ∨ zoneIn l zone d (i + 1) := Iff.rfl
    by_cases c : (rd_T60 l i).f0 = zone
    · have e : atFrom l zone tick (d + 1) i best last = atFrom l zone tick d (i + 1) (bestOf l tick best i) (lastOf l last i) := by rw [atFrom, if_pos c]
      have hl : 0 ≤ lastOf l last i := by unfold lastOf; split <;> omega
      rw [e, atFrom_pos l zone tick d (i + 1) _ _ (by omega) (fun _ => hl), hz]
      simp [c, hl]
    · have e : atFrom l zone tick (d + 1) i best last = atFrom l zone tick d (i + 1) best last := by rw [atFrom, if_neg c]
      rw [e, atFrom_pos l zone tick d (i + 1) _ _ (by omega) h, hz]
      simp [c]
theorem atV_pos (l : List S60) (zone t t' : Int) (h : 0 ≤ atV l zone t) : 0 ≤ atV l zone t' := by
  unfold atV at *
  rw [atFrom_pos l zone _ _ _ _ _ (by omega) (by omega)] at *
  exact h
theorem atV_lt (l : List S60) (zone t : Int) : -1 ≤ atV l zone t ∧ atV l zone t < l.length := by
  have := atFrom_in l zone (Int.tmod t 86400) l.length 0 (-1) (-1) (by omega) (by omega) (by omega)
  unfold atV
  omega
theorem tarOk_all : ∀ (l : List S60) (seen : List (Int × Int)), tarOk seen l = true → ∀ t ∈ l, tarOne t = true
  | [], _, _, t, ht => by cases ht
  | x :: xs, seen, h, t, ht => by
    rw [tarOk] at h
    by_cases c : tarOne x = true ∧ (x.f0, x.f1) ∉ seen
    · rw [if_pos c] at h
      rcases List.mem_cons.1 ht with rfl | ht
      · exact c.1
      · exact tarOk_all xs _ h t ht
    · rw [if_neg c] at h; cases h
theorem tarV_one {l : List S60} (h : tarV l = true) (i : Int) (h0 : 0 ≤ i) (h1 : i < l.length) : tarOne (rd_T60 l i) = true := by
  unfold tarV at h
  simp only [Bool.and_eq_true] at h
  refine tarOk_all l [] h.1 _ ?_
  have : rd_T60 l i = l[i.toNat] := getD_at l z60 i.toNat (by omega)
  rw [this]
  exact List.getElem_mem _
theorem tarV_step {l : List S60} (h : tarV l = true) (i : Int) (h0 : 0 ≤ i) (h1 : i < l.length) : 1 ≤ (rd_T60 l i).f2 ∧ (rd_T60 l i).f2 ≤ 10000 := by
  have := tarV_one h i h0 h1
  unfold tarOne at this
  simp only [Bool.and_eq_true, decide_eq_true_eq] at this
  omega
theorem tariffAt_in {l : List S60} (h : tarV l = true) (zone t : Int) (h0 : 0 ≤ t) (h1 : t ≤ 1000000000) : tariffAt l zone t = (atV l zone t, decide (atV l zone t ≥ 0)) := by
  unfold tariffAt
  rw [if_pos (by simp [h, tickV, h0, h1])]
def rateFrom (l : List S60) (zone e : Int) : Nat → Int → Int → Int → Int × Int
  | 0, _, n, c => (n, c)
  | d + 1, t, n, c => if t < e then rateFrom l zone e d (t + (rd_T60 l (atV l zone t)).f2) (wrap64 (n + 1)) (wrap64 (c + (rd_T60 l (atV l zone t)).f3)) else (n, c)

def ticksV (a b : Int) : Bool := tickV a && (decide (a ≤ b) && decide (b ≤ a + 86400)) && tickV b
theorem ticks_spec (a b : Int) : spec_l9Ticks.f a b = some (ticksV a b) := by
  unfold spec_l9Ticks.f ticksV tickV
  simp only [tick_spec, in_spec, Option.bind_some]
  by_cases c : 0 ≤ a ∧ a ≤ 1000000000
  · rw [w64 (by omega)]
    by_cases c2 : (decide (a ≤ b) && decide (b ≤ a + 86400)) = true <;> simp [c, c2]
  · have : (decide (0 ≤ a) && decide (a ≤ 1000000000)) = false := by simpa using c
    simp [this]
theorem rate_spec_loop (l : List S60) (hl : (l.length : Int) ≤ 1048576) (hv : tarV l = true) (zone e : Int) (he : e ≤ 1000000000) (hz : 0 ≤ atV l zone 0) (d : Nat) : ∀ (t n c : Int), 0 ≤ t → t ≤ 1000010000 → e - t ≤ d →
    Ev (fun k => spec_Rate.l0 k l zone e t n c) ((rateFrom l zone e d t n c).1, (rateFrom l zone e d t n c).2, true) := by
  induction d with
  | zero =>
    intro t n c h0 h2 h1
    refine Ev.step (f := fun _ => some (n, c, true)) (fun k => ?_) (Ev.now _)
    simp only [spec_Rate.l0]
    rw [if_neg (by omega)]
  | succ d ih =>
    intro t n c h0 h2 h1
    unfold rateFrom
    by_cases ct : t < e
    · have hz' := atV_pos l zone 0 t hz
      have hlt := (atV_lt l zone t).2
      have hs := tarV_step hv _ hz' hlt
      rw [if_pos ct]
      refine Ev.step (f := fun k => (spec_TariffAt.f k l zone t).bind fun bt148 => (if 0 ≤ bt148.1 then (if bt148.1 < (l.length : Int) then (spec_Rate.l0 k l zone e (wrap64 (t + ((rd_T60 l bt148.1).f2))) (wrap64 (n + 1)) (wrap64 (c + ((rd_T60 l bt148.1).f3)))) else (none)) else (none))) (fun k => ?_) (Ev.bind (at_spec l hl zone t) ?_)
      · simp only [spec_Rate.l0]
        rw [if_pos ct]
      · rw [tariffAt_in hv zone t h0 (by omega)]
        simp only [if_pos hz', if_pos hlt]
        rw [w64 (x := t + _) (by omega)]
        exact ih _ _ _ (by omega) (by omega) (by omega)
    · rw [if_neg ct]
      refine Ev.step (f := fun _ => some (n, c, true)) (fun k => ?_) (Ev.now _)
      simp only [spec_Rate.l0]
      rw [if_neg ct]
theorem rate_impl_loop (l : List S60) (hl : (l.length : Int) ≤ 1048576) (hv : tarV l = true) (zone e : Int) (he : e ≤ 1000000000) (hz : 0 ≤ atV l zone 0) (d : Nat) : ∀ (t n c : Int), 0 ≤ t → t ≤ 1000010000 → e - t ≤ d →
    Ev (fun k => impl_Rate.l0 k l zone e t n c) ((rateFrom l zone e d t n c).1, (rateFrom l zone e d t n c).2, true) := by
  induction d with
  | zero =>
    intro t n c h0 h2 h1
    refine Ev.step (f := fun _ => some (n, c, true)) (fun k => ?_) (Ev.now _)
    simp only [impl_Rate.l0]
    rw [if_neg (by omega)]
  | succ d ih =>
    intro t n c h0 h2 h1
    unfold rateFrom
    by_cases ct : t < e
    · have hz' := atV_pos l zone 0 t hz
      have hlt := (atV_lt l zone t).2
      have hs := tarV_step hv _ hz' hlt
      rw [if_pos ct]
      refine Ev.step (f := fun k => (impl_tariffAt.f k l zone t).bind fun t166 => (if 0 ≤ t166 then (if t166 < (l.length : Int) then (impl_Rate.l0 k l zone e (wrap64 (t + ((rd_T60 l t166).f2))) (wrap64 (n + 1)) (wrap64 (c + ((rd_T60 l t166).f3)))) else (none)) else (none))) (fun k => ?_) (Ev.bind (at_impl0 l hl zone t) ?_)
      · simp only [impl_Rate.l0]
        rw [if_pos ct]
      · simp only [if_pos hz', if_pos hlt]
        rw [w64 (x := t + _) (by omega)]
        exact ih _ _ _ (by omega) (by omega) (by omega)
    · rw [if_neg ct]
      refine Ev.step (f := fun _ => some (n, c, true)) (fun k => ?_) (Ev.now _)
      simp only [impl_Rate.l0]
      rw [if_neg ct]
def rateV (l : List S60) (zone a e : Int) : Int × Int × Bool :=
  if (tarV l && tickV a && decide (0 ≤ atV l zone a) && ticksV a e) = true then ((rateFrom l zone e (e - a).toNat a 0 (rd_T60 l (atV l zone a)).f4).1, (rateFrom l zone e (e - a).toNat a 0 (rd_T60 l (atV l zone a)).f4).2, true) else (0, 0, false)
theorem rate_spec (l : List S60) (hl : (l.length : Int) ≤ 1048576) (zone a e : Int) : Ev (fun k => spec_Rate.f k l zone a e) (rateV l zone a e) := by
  refine Ev.congr (f := fun k => (spec_TariffAt.f k l zone a).bind fun bt143 => if bt143.2 = true then spec_Rate.j0 k l zone a e bt143.1 (!ticksV a e) else spec_Rate.j0 k l zone a e bt143.1 true) (fun k => ?_) (Ev.bind (at_spec l hl zone a) ?_)
  · unfold spec_Rate.f
    simp only [ticks_spec, Option.bind_some]
  · have N : ∀ i, Ev (fun k => spec_Rate.j0 k l zone a e i true) (0, 0, false) := fun i => Ev.step (f := fun _ => some (0, 0, false)) (fun k => by simp only [spec_Rate.j0, if_true]) (Ev.now _)
    by_cases c1 : (tarV l && tickV a) = true
    · rw [show tariffAt l zone a = (atV l zone a, decide (atV l zone a ≥ 0)) by unfold tariffAt; rw [if_pos c1]]
      by_cases c2 : atV l zone a ≥ 0
      · simp only [c2, decide_true, if_true]
        cases c3 : ticksV a e
        · have : rateV l zone a e = (0, 0, false) := by unfold rateV; rw [if_neg (by simp [c3])]
          rw [this]; exact N _
        · have hv : tarV l = true := by simp only [Bool.and_eq_true] at c1; exact c1.1
          have ht := c3
          unfold ticksV tickV at ht
          simp only [Bool.and_eq_true, decide_eq_true_eq] at ht
          have : rateV l zone a e = ((rateFrom l zone e (e - a).toNat a 0 (rd_T60 l (atV l zone a)).f4).1, (rateFrom l zone e (e - a).toNat a 0 (rd_T60 l (atV l zone a)).f4).2, true) := by unfold rateV; rw [if_pos (by simp only [c1, c3, Bool.and_true, Bool.true_and, decide_eq_true_eq]; omega)]
          rw [this]
          refine Ev.step (fun k => ?_) (rate_spec_loop l hl hv zone e (by omega) (atV_pos l zone a 0 c2) (e - a).toNat a 0 (rd_T60 l (atV l zone a)).f4 (by omega) (by omega) (by omega))
          simp only [spec_Rate.j0, Bool.not_true, Bool.false_eq_true, if_false]
          rw [if_pos (by omega), if_pos (atV_lt l zone a).2]
      · have : rateV l zone a e = (0, 0, false) := by unfold rateV; rw [if_neg (by simp; omega)]
        rw [this]
        simp only [c2, decide_false, Bool.false_eq_true, if_false]; exact N _
    · have : rateV l zone a e = (0, 0, false) := by unfold rateV; rw [if_neg (fun q => c1 (by simp only [Bool.and_eq_true] at q ⊢; exact q.1.1))]
      rw [this]
      rw [show tariffAt l zone a = (-1, false) by unfold tariffAt; rw [if_neg c1]]
      simp only [Bool.false_eq_true, if_false]; exact N _
theorem rate_impl (l : List S60) (hl : (l.length : Int) ≤ 1048576) (zone a e : Int) : Ev (fun k => impl_Rate.f k l zone a e) (rateV l zone a e) := by
  refine Ev.congr (f := fun k => (impl_TariffAt.f k l zone a).bind fun bt143 => if bt143.2 = true then impl_Rate.j0 k l zone a e bt143.1 (!(decide (a ≤ e) && decide (e ≤ mn (wrap64 (a + 86400)) 1000000000))) else impl_Rate.j0 k l zone a e bt143.1 true) (fun k => ?_) (Ev.bind (at_impl l hl zone a) ?_)
  · unfold impl_Rate.f
    simp only [in_impl, Option.bind_some]
  · have N : ∀ i, Ev (fun k => impl_Rate.j0 k l zone a e i true) (0, 0, false) := fun i => Ev.step (f := fun _ => some (0, 0, false)) (fun k => by simp only [impl_Rate.j0, if_true]) (Ev.now _)
    by_cases c1 : (tarV l && tickV a) = true
    · rw [show tariffAt l zone a = (atV l zone a, decide (atV l zone a ≥ 0)) by unfold tariffAt; rw [if_pos c1]]
      have hta : tickV a = true := by simp only [Bool.and_eq_true] at c1; exact c1.2
      have e3 : (decide (a ≤ e) && decide (e ≤ mn (wrap64 (a + 86400)) 1000000000)) = ticksV a e := by
        have ht := hta
        unfold tickV at ht
        simp only [Bool.and_eq_true, decide_eq_true_eq] at ht
        rw [w64 (by omega)]
        unfold ticksV
        rw [hta]
        unfold tickV mn
        rw [Bool.eq_iff_iff]
        simp only [Bool.and_eq_true, decide_eq_true_eq, true_and]
        split <;> omega
      by_cases c2 : atV l zone a ≥ 0
      · simp only [c2, decide_true, if_true, e3]
        cases c3 : ticksV a e
        · have : rateV l zone a e = (0, 0, false) := by unfold rateV; rw [if_neg (by simp [c3])]
          rw [this]; exact N _
        · have hv : tarV l = true := by simp only [Bool.and_eq_true] at c1; exact c1.1
          have ht := c3
          unfold ticksV tickV at ht
          simp only [Bool.and_eq_true, decide_eq_true_eq] at ht
          have : rateV l zone a e = ((rateFrom l zone e (e - a).toNat a 0 (rd_T60 l (atV l zone a)).f4).1, (rateFrom l zone e (e - a).toNat a 0 (rd_T60 l (atV l zone a)).f4).2, true) := by unfold rateV; rw [if_pos (by simp only [c1, c3, Bool.and_true, Bool.true_and, decide_eq_true_eq]; omega)]
          rw [this]
          refine Ev.step (fun k => ?_) (rate_impl_loop l hl hv zone e (by omega) (atV_pos l zone a 0 c2) (e - a).toNat a 0 (rd_T60 l (atV l zone a)).f4 (by omega) (by omega) (by omega))
          simp only [impl_Rate.j0, Bool.not_true, Bool.false_eq_true, if_false]
          rw [if_pos (by omega), if_pos (atV_lt l zone a).2]
      · have : rateV l zone a e = (0, 0, false) := by unfold rateV; rw [if_neg (by simp; omega)]
        rw [this]
        simp only [c2, decide_false, Bool.false_eq_true, if_false]; exact N _
    · have : rateV l zone a e = (0, 0, false) := by unfold rateV; rw [if_neg (fun q => c1 (by simp only [Bool.and_eq_true] at q ⊢; exact q.1.1))]
      rw [this]
      rw [show tariffAt l zone a = (-1, false) by unfold tariffAt; rw [if_neg c1]]
      simp only [Bool.false_eq_true, if_false]; exact N _

theorem to_loop (l : List Int) (hl : (l.length : Int) ≤ 1048576) (d : Nat) : ∀ (i : Int) (m : List Int), 0 ≤ i → i ≤ l.length → (l.length : Int) - i = d → m.length = l.length →
    (∀ j : Nat, (j : Int) < i → m[j]? = l[j]?) → Ev (fun k => laws_toIntS.l0 k l m i) l := by
  induction d with
  | zero =>
    intro i m h0 h1 hd hm hp
    refine Ev.step (f := fun _ => some l) (fun k => ?_) (Ev.now _)
    simp only [laws_toIntS.l0]
    rw [if_neg (by omega)]
    congr 1
    apply List.ext_getElem?
    intro j
    by_cases hj : j < l.length
    · exact hp j (by omega)
    · rw [List.getElem?_eq_none (by omega), List.getElem?_eq_none (by omega)]
  | succ d ih =>
    intro i m h0 h1 hd hm hp
    have ei : wrap64 (i + 1) = i + 1 := w64 (by omega)
    refine Ev.step (fun k => ?_) (ih (i + 1) (m.set i.toNat (rd l i)) (by omega) (by omega) (by omega) (by simpa using hm) ?_)
    · simp only [laws_toIntS.l0]
      rw [if_pos (by omega), if_pos h0, if_pos (by omega), ei]
    · intro j hj
      by_cases e : j = i.toNat
      · subst e
        rw [List.getElem?_set_self (by omega)]
        exact (rd_at l i h0 (by omega)).symm
      · rw [List.getElem?_set_ne (by omega)]
        exact hp j (by omega)
theorem to_ev (l : List Int) (hl : (l.length : Int) ≤ 1048576) : Ev (fun k => laws_toIntS.f k l) l := by
  refine Ev.congr (fun k => ?_) (to_loop l hl l.length 0 (List.replicate l.length 0) (by omega) (by omega) (by omega) (by simp) (fun j hj => by omega))
  unfold laws_toIntS.f
  rw [if_pos (by omega), if_pos (by omega)]
  rfl
theorem eq_loop (l : List Int) (hl : (l.length : Int) ≤ 1048576) (d : Nat) : ∀ (i : Int), 0 ≤ i → i ≤ l.length → (l.length : Int) - i = d → Ev (fun k => laws_eqIntS.l0 k l l i) true := by
  induction d with
  | zero =>
    intro i h0 h1 hd
    refine Ev.step (f := fun _ => some true) (fun k => ?_) (Ev.now _)
    simp only [laws_eqIntS.l0]
    rw [if_neg (by omega)]
  | succ d ih =>
    intro i h0 h1 hd
    have ei : wrap64 (i + 1) = i + 1 := w64 (by omega)
    have hlt : i < (l.length : Int) := by omega
    refine Ev.step (fun k => ?_) (ih (i + 1) (by omega) (by omega) (by omega))
    simp only [laws_eqIntS.l0, if_pos hlt, if_pos h0, ei, if_true]
theorem eq_ev (l : List Int) (hl : (l.length : Int) ≤ 1048576) : Ev (fun k => laws_eqIntS.f k l l) true := by
  refine Ev.congr (fun k => ?_) (eq_loop l hl l.length 0 (by omega) (by omega) (by omega))
  unfold laws_eqIntS.f
  rw [if_pos rfl]

def cutsFrom (m : List Int) (a e : Int) : Nat → Int → Bool
  | 0, _ => true
  | d + 1, i => if (decide (a ≤ rd m i) && decide (rd m i ≤ e)) = true then (if i > 0 ∧ rd m (i - 1) ≥ rd m i then false else cutsFrom m a e d (i + 1)) else false
def partsV (l : List S60) (zone a e : Int) (m : List Int) (ok : Bool) : Int × Int × Bool := if ok = true then (if (m.length : Int) > 100 then (0, 0, false) else rateV l zone a e) else (0, 0, false)
theorem parts_spec_loop (l : List S60) (hl : (l.length : Int) ≤ 1048576) (zone a e : Int) (m : List Int) (hm : (m.length : Int) ≤ 1048576) (d : Nat) : ∀ i : Int, 0 ≤ i → (m.length : Int) - i = d →
    Ev (fun k => spec_RateParts.l0 k l zone a e m i) (partsV l zone a e m (cutsFrom m a e d i)) := by
  induction d with
  | zero =>
    intro i h0 hd
    unfold cutsFrom partsV
    rw [if_pos rfl]
    by_cases q : (m.length : Int) > 100
    · rw [if_pos q]
      refine Ev.step (f := fun _ => some (0, 0, false)) (fun k => ?_) (Ev.now _)
      simp only [spec_RateParts.l0]
      rw [if_neg (by omega), if_pos q]
    · rw [if_neg q]
      refine Ev.step (f := fun k => (spec_Rate.f k l zone a e).bind fun bt159 => some (bt159.1, bt159.2.1, bt159.2.2)) (fun k => ?_) (Ev.bind (rate_spec l hl zone a e) (Ev.now _))
      simp only [spec_RateParts.l0]
      rw [if_neg (by omega), if_neg q]
  | succ d ih =>
    intro i h0 hd
    have ei : wrap64 (i + 1) = i + 1 := w64 (by omega)
    have ej : wrap64 (i - 1) = i - 1 := w64 (by omega)
    unfold cutsFrom
    by_cases c1 : (decide (a ≤ rd m i) && decide (rd m i ≤ e)) = true
    · rw [if_pos c1]
      by_cases c2 : i > 0
      · by_cases c3 : rd m (i - 1) ≥ rd m i
        · rw [if_pos ⟨c2, c3⟩]
          refine Ev.step (f := fun _ => some (0, 0, false)) (fun k => ?_) (Ev.now _)
          simp only [spec_RateParts.l0, in_spec, Option.bind_some]
          rw [if_pos (by omega), if_pos h0, if_pos c1, if_pos c2, ej, if_pos (by omega), if_pos (by omega), if_pos c3]
        · rw [if_neg (fun q => c3 q.2)]
          refine Ev.step (fun k => ?_) (ih (i + 1) (by omega) (by omega))
          simp only [spec_RateParts.l0, in_spec, Option.bind_some]
          rw [if_pos (by omega), if_pos h0, if_pos c1, if_pos c2, ej, if_pos (by omega), if_pos (by omega), if_neg c3, ei]
      · rw [if_neg (fun q => c2 q.1)]
        refine Ev.step (fun k => ?_) (ih (i + 1) (by omega) (by omega))
        simp only [spec_RateParts.l0, in_spec, Option.bind_some]
        rw [if_pos (by omega), if_pos h0, if_pos c1, if_neg c2, ei]
    · rw [if_neg c1]
      refine Ev.step (f := fun _ => some (0, 0, false)) (fun k => ?_) (Ev.now _)
      simp only [spec_RateParts.l0, in_spec, Option.bind_some]
      rw [if_pos (by omega), if_pos h0, if_neg c1]
theorem parts_impl_loop (l : List S60) (hl : (l.length : Int) ≤ 1048576) (zone a e : Int) (m : List Int) (hm : (m.length : Int) ≤ 1048576) (d : Nat) : ∀ i : Int, 0 ≤ i → (m.length : Int) - i = d →
    Ev (fun k => impl_RateParts.l0 k l zone a e m m m.length i) (partsV l zone a e m (cutsFrom m a e d i)) := by
  induction d with
  | zero =>
    intro i h0 hd
    unfold cutsFrom partsV
    rw [if_pos rfl]
    by_cases q : (m.length : Int) > 100
    · rw [if_pos q]
      refine Ev.step (f := fun _ => some (0, 0, false)) (fun k => ?_) (Ev.now _)
      simp only [impl_RateParts.l0]
      rw [if_neg (by omega), if_pos q]
    · rw [if_neg q]
      refine Ev.step (f := fun k => (impl_Rate.f k l zone a e).bind fun bt159 => some (bt159.1, bt159.2.1, bt159.2.2)) (fun k => ?_) (Ev.bind (rate_impl l hl zone a e) (Ev.now _))
      simp only [impl_RateParts.l0]
      rw [if_neg (by omega), if_neg q]
  | succ d ih =>
    intro i h0 hd
    have ei : wrap64 (i + 1) = i + 1 := w64 (by omega)
    have ej : wrap64 (i - 1) = i - 1 := w64 (by omega)
    have hi : i < (m.length : Int) := by omega
    unfold cutsFrom
    by_cases c1 : (decide (a ≤ rd m i) && decide (rd m i ≤ e)) = true
    · rw [if_pos c1]
      by_cases c2 : i > 0
      · by_cases c3 : rd m (i - 1) ≥ rd m i
        · rw [if_pos ⟨c2, c3⟩]
          refine Ev.step (f := fun _ => some (0, 0, false)) (fun k => ?_) (Ev.now _)
          simp only [impl_RateParts.l0, in_impl, Option.bind_some]
          rw [if_pos hi, if_pos h0, if_pos hi, if_pos c1, if_pos c2, ej, if_pos (by omega), if_pos (by omega), if_pos c3]
        · rw [if_neg (fun q => c3 q.2)]
          refine Ev.step (fun k => ?_) (ih (i + 1) (by omega) (by omega))
          simp only [impl_RateParts.l0, in_impl, Option.bind_some]
          rw [if_pos hi, if_pos h0, if_pos hi, if_pos c1, if_pos c2, ej, if_pos (by omega), if_pos (by omega), if_neg c3, ei]
      · rw [if_neg (fun q => c2 q.1)]
        refine Ev.step (fun k => ?_) (ih (i + 1) (by omega) (by omega))
        simp only [impl_RateParts.l0, in_impl, Option.bind_some]
        rw [if_pos hi, if_pos h0, if_pos hi, if_pos c1, if_neg c2, ei]
    · rw [if_neg c1]
      refine Ev.step (f := fun _ => some (0, 0, false)) (fun k => ?_) (Ev.now _)
      simp only [impl_RateParts.l0, in_impl, Option.bind_some]
      rw [if_pos hi, if_pos h0, if_pos hi, if_neg c1]

theorem FnExactRateParts : SFnExactRateParts.Pure := by
  intro l zone a e m hl0 _ _ _ hm0
  apply Ev.rounds
  by_cases h4 : (m.length : Int) > 1048576
  · refine Ev.congr (f := fun _ => some true) (fun k => ?_) (Ev.now _)
    unfold laws_FnExactRateParts.f
    rw [if_pos h4]
  by_cases h : wrap64 (1048576 - (l.length : Int)) < 0
  · refine Ev.congr (f := fun _ => some true) (fun k => ?_) (Ev.now _)
    simp [laws_FnExactRateParts.f, laws_szTariffS.f, if_pos h]
  · have hl := szT h hl0.2
    have hm : (m.length : Int) ≤ 1048576 := by omega
    have hT := tars_ev l hl
    have hM := to_ev m hm
    have hl2 : ((l.map toT).length : Int) ≤ 1048576 := by simpa using hl
    have hJ : Ev (fun k => laws_FnExactRateParts.j0 k l m (l.map toT) m false) true := by
      refine Ev.step (fun k => ?_) (Ev.bind (f := fun k t158 => (laws_eqTariffS.f k (l.map toT) t158).bind fun t161 => if t161 = true then ((laws_toIntS.f k m).bind fun t219 => ((laws_eqIntS.f k m t219).bind fun t222 => (if t222 = true then (some true) else (some false)))) else some false) hT (Ev.bind (eqT_ev _ hl2) ?_))
      · simp only [laws_FnExactRateParts.j0, Bool.false_eq_true, if_false]
      · simp only [if_true]
        exact Ev.bind hM (Ev.bind (eq_ev _ hm) (Ev.now _))
    refine Ev.congr (f := fun k => (laws_toTariffS.f k l).bind fun t194 => (laws_toIntS.f k m).bind fun t197 => (spec_RateParts.f k t194 zone a e t197).bind fun bt200 => (laws_toTariffS.f k l).bind fun t204 => (laws_toIntS.f k m).bind fun t207 => (impl_RateParts.f k t204 zone a e t207).bind fun bt210 => (laws_eqCharge.f bt210.1 bt210.2.1 bt200.1 bt200.2.1).bind fun t214 => (if t214 = true then (laws_FnExactRateParts.j0 k l m t204 t207 (bt210.2.2 != bt200.2.2)) else (laws_FnExactRateParts.j0 k l m t204 t207 true))) (fun k => ?_) ?_
    · unfold laws_FnExactRateParts.f
      rw [if_neg h4]
      simp only [laws_szTariffS.f, if_neg h, Option.bind_some]
    · refine Ev.bind hT (Ev.bind hM (Ev.bind (parts_spec_loop _ hl2 zone a e m hm m.length 0 (by omega) (by omega)) (Ev.bind hT (Ev.bind hM (Ev.bind (parts_impl_loop _ hl2 zone a e m hm m.length 0 (by omega) (by omega)) ?_)))))
      simp only [laws_eqCharge.f, if_true, bne_self_eq_false, Option.bind_some]
      exact hJ

end Go.Proofs.Ytodehmbgcncnhaa.Pure
