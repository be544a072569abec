/- A drawn call that lasts longer costs no less and has no fewer steps; told in parts it costs the same. No condition. -/
import Derived.Test.YtodehmbgcncnhaaSFnLonger
set_option linter.unusedVariables false
set_option linter.unusedSimpArgs false
namespace Go.Proofs.Ytodehmbgcncnhaa.Pure
open Go.RowKit Go.Proofs.Ytodehmbgcncnhaa.PFnLonger Go.Proofs.Ytodehmbgcncnhaa.SFnLonger Go.Proofs.YtodehmbgcncnhaaW.PrintWords Go.Proofs.YtodehmbgcncnhaaW.PrintLast Go.Proofs.YtodehmbgcncnhaaW.PrintMore
theorem w64 {x : Int} (h : -9000000000000000000 ≤ x ∧ x ≤ 9000000000000000000) : wrap64 x = x := by unfold wrap64; omega
theorem rd_at (l : List Int) (i : Int) (h0 : 0 ≤ i) (h1 : i < l.length) : l[i.toNat]? = some (rd l i) := by
  simp [rd, List.getD_eq_getElem?_getD, List.getElem?_eq_getElem (show i.toNat < l.length by omega)]

theorem gen_to {α β : Type} (l : List α) (hl : (l.length : Int) ≤ 1048576) (F : Nat → List β → Int → Option (List β)) (g : Int → β)
    (hF : ∀ k m i, 0 ≤ i → i < (l.length : Int) → i < (m.length : Int) → F (k + 1) m i = F k (m.set i.toNat (g i)) (wrap64 (i + 1))) (hE : ∀ k m i, ¬ i < (l.length : Int) → F (k + 1) m i = some m)
    (G : α → β) (hg : ∀ (i : Nat) (h : i < l.length), g i = G l[i]) (d : Nat) : ∀ (i : Int) (m : List β), 0 ≤ i → i ≤ l.length → (l.length : Int) - i = d → m.length = l.length →
    (∀ j : Nat, (j : Int) < i → m[j]? = (l.map G)[j]?) → Ev (fun k => F k m i) (l.map G) := by
  induction d with
  | zero =>
    intro i m h0 h1 hd hm hp
    refine Ev.step (f := fun _ => some (l.map G)) (fun k => ?_) (Ev.now _)
    rw [hE k m i (by omega)]
    congr 1
    apply List.ext_getElem?
    intro j
    by_cases hj : j < l.length
    · exact hp j (by omega)
    · rw [List.getElem?_eq_none (by omega), List.getElem?_eq_none (by simp; omega)]
  | succ d ih =>
    intro i m h0 h1 hd hm hp
    have ei : wrap64 (i + 1) = i + 1 := w64 (by omega)
    refine Ev.step (fun k => ?_) (ih (i + 1) (m.set i.toNat (g i)) (by omega) (by omega) (by omega) (by simpa using hm) ?_)
    · rw [hF k m i h0 (by omega) (by omega), ei]
    · intro j hj
      by_cases e : j = i.toNat
      · subst e
        rw [List.getElem?_set_self (by omega), List.getElem?_map, List.getElem?_eq_getElem (show i.toNat < l.length by omega)]
        have := hg i.toNat (by omega)
        rw [Int.toNat_of_nonneg h0] at this
        rw [this]
        rfl
      · rw [List.getElem?_set_ne (by omega)]
        exact hp j (by omega)
theorem gen_eq {n : Nat} (hl : (n : Int) ≤ 1048576) (F : Nat → Int → Option Bool) (hF : ∀ k i, 0 ≤ i → i < (n : Int) → F (k + 1) i = F k (wrap64 (i + 1))) (hE : ∀ k i, ¬ i < (n : Int) → F (k + 1) i = some true)
    (d : Nat) : ∀ (i : Int), 0 ≤ i → i ≤ n → (n : Int) - i = d → Ev (fun k => F k i) true := by
  induction d with
  | zero =>
    intro i h0 h1 hd
    exact Ev.step (f := fun _ => some true) (fun k => hE k i (by omega)) (Ev.now _)
  | succ d ih =>
    intro i h0 h1 hd
    have ei : wrap64 (i + 1) = i + 1 := w64 (by omega)
    refine Ev.step (fun k => ?_) (ih (i + 1) (by omega) (by omega) (by omega))
    rw [hF k i h0 (by omega), ei]
theorem getD_at {α : Type} (l : List α) (z : α) (i : Nat) (h : i < l.length) : l.getD i z = l[i] := by simp [List.getD_eq_getElem?_getD, h]


theorem in_spec (a b c : Int) : spec_l1In.f a b c = some (decide (b ≤ a) && decide (a ≤ c)) := by
  unfold spec_l1In.f
  by_cases q : a ≥ b
  · rw [if_pos q]; simp [q]
  · rw [if_neg q]; simp [q]
def keyOf' (t : S60) : Int × Int := (t.f0, t.f1)
theorem tar_inner (l : List S60) (hl : (l.length : Int) ≤ 1048576) (i : Int) (h0 : 0 ≤ i) (h1 : i < l.length) (a b c e g : Int) (r : Bool)
    (hnext : (a, b) ∉ (l.take i.toNat).map keyOf' → Ev (fun k => spec_TariffsOk.l0 k l (wrap64 (i + 1))) r) (hin : (a, b) ∈ (l.take i.toNat).map keyOf' → r = false) (d : Nat) :
    ∀ j : Int, 0 ≤ j → j ≤ i → i - j = d → (∀ m : Nat, (m : Int) < j → ∀ h : m < l.length, keyOf' l[m] ≠ (a, b)) → Ev (fun k => spec_TariffsOk.l1 k l i j a b c e g) r := by
  induction d with
  | zero =>
    intro j g0 g1 hd hp
    refine Ev.step (fun k => ?_) (hnext ?_)
    · simp only [spec_TariffsOk.l1]
      rw [if_neg (by omega)]
    · intro hm
      obtain ⟨x, hx, he⟩ := List.mem_map.1 hm
      obtain ⟨m, hm2⟩ := List.mem_iff_getElem?.1 hx
      rw [List.getElem?_take] at hm2
      split at hm2
      · rename_i hlt
        have hml : m < l.length := by omega
        rw [List.getElem?_eq_getElem hml] at hm2
        cases hm2
        exact hp m (by omega) hml he
      · cases hm2
  | succ d ih =>
    intro j g0 g1 hd hp
    have ei : wrap64 (j + 1) = j + 1 := w64 (by omega)
    have hj : j.toNat < l.length := by omega
    have hrd : rd_T60 l j = l[j.toNat] := getD_at l z60 j.toNat hj
    by_cases c1 : keyOf' l[j.toNat] = (a, b)
    · refine Ev.step (f := fun _ => some r) (fun k => ?_) (Ev.now _)
      have hr : r = false := by
        apply hin
        rw [← c1]
        refine List.mem_map_of_mem (List.mem_iff_getElem?.2 ⟨j.toNat, ?_⟩)
        rw [List.getElem?_take, if_pos (by omega), List.getElem?_eq_getElem hj]
      simp only [keyOf', Prod.mk.injEq] at c1
      simp only [spec_TariffsOk.l1, hrd]
      rw [if_pos (by omega), if_pos g0, if_pos (by omega), if_pos c1.1, if_pos c1.2, hr]
    · refine Ev.step (fun k => ?_) (ih (j + 1) (by omega) (by omega) (by omega) ?_)
      · simp only [spec_TariffsOk.l1, hrd]
        rw [if_pos (by omega), if_pos g0, if_pos (by omega), ei]
        simp only [keyOf', Prod.mk.injEq] at c1
        by_cases c2 : (l[j.toNat]).f0 = a
        · rw [if_pos c2, if_neg (fun q => c1 ⟨c2, q⟩)]
        · rw [if_neg c2]
      · intro m hm hml
        by_cases e : m = j.toNat
        · subst e; exact c1
        · exact hp m (by omega) hml
theorem tar_outer (l : List S60) (hl : (l.length : Int) ≤ 1048576) (d : Nat) : ∀ i : Int, 0 ≤ i → i ≤ l.length → (l.length : Int) - i = d →
    Ev (fun k => spec_TariffsOk.l0 k l i) (tarOk ((l.take i.toNat).map keyOf') (l.drop i.toNat) && decide (l.length ≤ 40)) := by
  induction d with
  | zero =>
    intro i h0 h1 hd
    have e : l.drop i.toNat = [] := List.drop_eq_nil_iff.2 (by omega)
    rw [e, tarOk]
    refine Ev.step (f := fun _ => some (true && decide (l.length ≤ 40))) (fun k => ?_) (Ev.now _)
    simp only [spec_TariffsOk.l0]
    rw [if_neg (by omega)]
    congr 1
    simp
    try omega
  | succ d ih =>
    intro i h0 h1 hd
    have ei : wrap64 (i + 1) = i + 1 := w64 (by omega)
    have hi : i.toNat < l.length := by omega
    have hrd : rd_T60 l i = l[i.toNat] := getD_at l z60 i.toNat hi
    have ih' := ih (i + 1) (by omega) (by omega) (by omega)
    rw [← ei] at ih'
    have e1 : (wrap64 (i + 1)).toNat = i.toNat + 1 := by omega
    rw [e1, List.take_succ_eq_append_getElem hi, List.map_append, List.map_singleton] at ih'
    rw [List.drop_eq_getElem_cons hi, tarOk]
    generalize l[i.toNat] = t at *
    have hone : ∀ x : Bool × Bool × Bool × Bool × Bool, (x.1 && x.2.1 && x.2.2.1 && x.2.2.2.1 && x.2.2.2.2) = true ↔ x = (true, true, true, true, true) := by
      rintro ⟨x1, x2, x3, x4, x5⟩
      cases x1 <;> cases x2 <;> cases x3 <;> cases x4 <;> cases x5 <;> simp
    by_cases ht : tarOne t = true
    · simp only [ht, true_and]
      have IN : Ev (fun k => spec_TariffsOk.l1 k l i 0 t.f0 t.f1 t.f2 t.f3 t.f4) ((if (t.f0, t.f1) ∉ (l.take i.toNat).map keyOf' then tarOk ((l.take i.toNat).map keyOf' ++ [(t.f0, t.f1)]) (l.drop (i.toNat + 1)) else false) && decide (l.length ≤ 40)) := by
        refine tar_inner l hl i h0 (by omega) _ _ _ _ _ _ (fun hn => ?_) (fun hn => ?_) i.toNat 0 (by omega) (by omega) (by omega) (fun m hm => by omega)
        · rw [if_pos hn]
          exact ih'
        · rw [if_neg (fun q => q hn)]
          rfl
      refine Ev.step (f := fun k => spec_TariffsOk.j1 k l i false t.f0 t.f1 t.f2 t.f3 t.f4) (fun k => ?_) (Ev.step (fun k => ?_) IN)
      · simp only [spec_TariffsOk.l0, hrd, in_spec, Option.bind_some]
        rw [if_pos (by omega), if_pos h0]
        unfold tarOne at ht
        simp only [Bool.and_eq_true, decide_eq_true_eq] at ht
        obtain ⟨⟨⟨⟨⟨⟨⟨⟨⟨q0, q1⟩, q2⟩, q3⟩, q4⟩, q5⟩, q6⟩, q7⟩, q8⟩, q9⟩ := ht
        simp [q0, q1, q2, q3, q4, q5, q6, q7, q8, q9]
      · simp only [spec_TariffsOk.j1, Bool.false_eq_true, if_false]
    · rw [if_neg (fun q => ht q.1)]
      refine Ev.step (f := fun k => spec_TariffsOk.j1 k l i true t.f0 t.f1 t.f2 t.f3 t.f4) (fun k => ?_) (Ev.step (f := fun _ => some false) (fun k => ?_) (Ev.now _))
      · simp only [spec_TariffsOk.l0, hrd, in_spec, Option.bind_some]
        rw [if_pos (by omega), if_pos h0]
        unfold tarOne at ht
        obtain ⟨R, HR⟩ : ∃ R, R = spec_TariffsOk.j1 k l i true t.f0 t.f1 t.f2 t.f3 t.f4 := ⟨_, rfl⟩
        simp only [← HR]
        have hgo : ∀ q1 q2 q3 q4 q5 : Bool, ¬ (q1 && q2 && q3 && q4 && q5) = true → ∀ f : Bool → Option Bool, f true = R → (if q1 = true then if q2 = true then if q3 = true then if q4 = true then f (!q5) else R else R else R else R) = R := by
          intro q1 q2 q3 q4 q5 hq f hf
          cases q1 <;> cases q2 <;> cases q3 <;> cases q4 <;> cases q5 <;> simp_all
        refine hgo _ _ _ _ _ (fun q => ht ?_) (fun b => spec_TariffsOk.j1 k l i b t.f0 t.f1 t.f2 t.f3 t.f4) HR.symm
        simpa only [Bool.and_assoc] using q
      · simp only [spec_TariffsOk.j1, if_true]
theorem tar_spec (l : List S60) (hl : (l.length : Int) ≤ 1048576) : Ev (fun k => spec_TariffsOk.f k l) (tarOk [] l && decide (l.length ≤ 40)) := by
  have := tar_outer l hl l.length 0 (by omega) (by omega) (by omega)
  refine Ev.congr (fun k => ?_) this
  rfl

def lastOf (l : List S60) (last i : Int) : Int := if last < 0 ∨ (rd_T60 l i).f1 > (rd_T60 l last).f1 then i else last
def bestOk (l : List S60) (tick best i : Int) : Prop := (rd_T60 l i).f1 ≤ tick ∧ (best < 0 ∨ (rd_T60 l i).f1 > (rd_T60 l best).f1)
instance (l : List S60) (tick best i : Int) : Decidable (bestOk l tick best i) := by unfold bestOk; infer_instance
def bestOf (l : List S60) (tick best i : Int) : Int := if bestOk l tick best i then i else best
/-- The tariff in force: 'd' of the list are left, from place i. -/
def atFrom (l : List S60) (zone tick : Int) : Nat → Int → Int → Int → Int
  | 0, _, best, last => if best < 0 then last else best
  | d + 1, i, best, last => if (rd_T60 l i).f0 = zone then atFrom l zone tick d (i + 1) (bestOf l tick best i) (lastOf l last i) else atFrom l zone tick d (i + 1) best last
theorem lastOf_in (l : List S60) (last i : Int) (h0 : 0 ≤ i) (h : -1 ≤ last ∧ last < i) : -1 ≤ lastOf l last i ∧ lastOf l last i < i + 1 := by unfold lastOf; split <;> omega
theorem bestOf_in (l : List S60) (tick best i : Int) (h0 : 0 ≤ i) (h : -1 ≤ best ∧ best < i) : -1 ≤ bestOf l tick best i ∧ bestOf l tick best i < i + 1 := by unfold bestOf; split <;> omega
theorem atFrom_in (l : List S60) (zone tick : Int) : ∀ (d : Nat) (i best last : Int), 0 ≤ i → (-1 ≤ best ∧ best < i) → (-1 ≤ last ∧ last < i) → -1 ≤ atFrom l zone tick d i best last ∧ atFrom l zone tick d i best last < i + d
  | 0, i, best, last, h0, hb, hl => by unfold atFrom; split <;> omega
  | d + 1, i, best, last, h0, hb, hl => by
    unfold atFrom
    split
    · have := atFrom_in l zone tick d (i + 1) (bestOf l tick best i) (lastOf l last i) (by omega) (bestOf_in l tick best i h0 hb) (lastOf_in l last i h0 hl)
      omega
    · have := atFrom_in l zone tick d (i + 1) best last (by omega) (by omega) (by omega)
      omega
theorem specAt_j2 (l : List S60) (k : Nat) (zone tick best last i : Int) (b : Bool) (h0 : 0 ≤ i) (h1 : i < l.length) (hl : -1 ≤ last ∧ last < i) :
    spec_TariffAt.j2 (k + 1) l zone tick best last i b = spec_TariffAt.l0 k l zone tick (if b = true then i else best) (lastOf l last i) (wrap64 (i + 1)) := by
  have hll : last < (l.length : Int) := by omega
  unfold lastOf
  cases b
  · by_cases c : last < 0
    · simp [spec_TariffAt.j2, c]
    · have c0 : 0 ≤ last := by omega
      by_cases c2 : (rd_T60 l i).f1 > (rd_T60 l last).f1 <;> simp [spec_TariffAt.j2, c, c0, h0, h1, hll, c2]
  · by_cases c : last < 0
    · simp [spec_TariffAt.j2, c]
    · have c0 : 0 ≤ last := by omega
      by_cases c2 : (rd_T60 l i).f1 > (rd_T60 l last).f1 <;> simp [spec_TariffAt.j2, c, c0, h0, h1, hll, c2]
theorem specAt_l0 (l : List S60) (k : Nat) (zone tick best last i : Int) (h0 : 0 ≤ i) (h1 : i < l.length) (hb : -1 ≤ best ∧ best < i) (cz : (rd_T60 l i).f0 = zone) :
    spec_TariffAt.l0 (k + 1) l zone tick best last i = spec_TariffAt.j2 k l zone tick best last i (decide (bestOk l tick best i)) := by
  have hbl : best < (l.length : Int) := by omega
  have hd : ∀ b : Bool, (b = true ↔ bestOk l tick best i) → decide (bestOk l tick best i) = b := by intro b hb; rw [Bool.eq_iff_iff, hb]; simp
  simp only [spec_TariffAt.l0]
  rw [if_pos h1, if_pos h0, if_pos cz]
  by_cases c1 : (rd_T60 l i).f1 ≤ tick
  · rw [if_pos c1]
    by_cases c2 : best < 0
    · rw [if_pos c2, hd true (by simp [bestOk, c1, c2])]
    · rw [if_neg c2, if_pos (by omega), if_pos hbl, hd (decide ((rd_T60 l i).f1 > (rd_T60 l best).f1)) (by simp [bestOk, c1, c2])]
  · rw [if_neg c1, hd false (by simp [bestOk, c1])]
theorem specAt_loop (l : List S60) (hl : (l.length : Int) ≤ 1048576) (zone tick : Int) (d : Nat) : ∀ (i best last : Int), 0 ≤ i → (l.length : Int) - i = d → (-1 ≤ best ∧ best < i) → (-1 ≤ last ∧ last < i) →
    Ev (fun k => spec_TariffAt.l0 k l zone tick best last i) (atFrom l zone tick d i best last, decide (atFrom l zone tick d i best last ≥ 0)) := by
  induction d with
  | zero =>
    intro i best last h0 hd hb hla
    unfold atFrom
    refine Ev.step (f := fun _ => some (if best < 0 then last else best, decide ((if best < 0 then last else best) ≥ 0))) (fun k => ?_) (Ev.now _)
    simp only [spec_TariffAt.l0]
    rw [if_neg (by omega)]
    split <;> rfl
  | succ d ih =>
    intro i best last h0 hd hb hla
    have ei : wrap64 (i + 1) = i + 1 := w64 (by omega)
    unfold atFrom
    by_cases cz : (rd_T60 l i).f0 = zone
    · rw [if_pos cz]
      refine Ev.step (fun k => specAt_l0 l k zone tick best last i h0 (by omega) hb cz) (Ev.step (fun k => specAt_j2 l k zone tick best last i _ h0 (by omega) hla) ?_)
      rw [ei]
      have e : (if decide (bestOk l tick best i) = true then i else best) = bestOf l tick best i := by unfold bestOf; simp only [decide_eq_true_eq]
      rw [e]
      exact ih (i + 1) _ _ (by omega) (by omega) (bestOf_in l tick best i h0 hb) (lastOf_in l last i h0 hla)
    · rw [if_neg cz]
      refine Ev.step (fun k => ?_) (ih (i + 1) best last (by omega) (by omega) (by omega) (by omega))
      simp only [spec_TariffAt.l0]
      rw [if_pos (by omega), if_pos h0, if_neg cz, ei]

theorem imAt_j1 (l : List S60) (k : Nat) (zone t best last i : Int) (b : Bool) (h0 : 0 ≤ i) (h1 : i < l.length) (hb : -1 ≤ best ∧ best < i) :
    impl_tariffAt.j1 (k + 1) l zone t best last i l l.length i b (rd_T60 l i).f0 (rd_T60 l i).f1 (rd_T60 l i).f2 (rd_T60 l i).f3 (rd_T60 l i).f4 = impl_tariffAt.l0 k l zone t (bestOf l (Int.tmod t 86400) best i) (if b = true then i else last) l l.length (wrap64 (i + 1)) := by
  have hbl : best < (l.length : Int) := by omega
  unfold bestOf bestOk
  cases b <;> by_cases c1 : (rd_T60 l i).f1 ≤ Int.tmod t 86400 <;> by_cases c2 : best < 0 <;> (try simp [impl_tariffAt.j1, c1, c2]) <;> (have c0 : 0 ≤ best := by omega) <;> by_cases c3 : (rd_T60 l i).f1 > (rd_T60 l best).f1 <;> simp [c0, hbl, c3]
theorem imAt_l0 (l : List S60) (k : Nat) (zone t best last i : Int) (h0 : 0 ≤ i) (h1 : i < l.length) (hla : -1 ≤ last ∧ last < i) (cz : (rd_T60 l i).f0 = zone) :
    impl_tariffAt.l0 (k + 1) l zone t best last l l.length i = impl_tariffAt.j1 k l zone t best last i l l.length i (decide (last < 0 ∨ (rd_T60 l i).f1 > (rd_T60 l last).f1)) (rd_T60 l i).f0 (rd_T60 l i).f1 (rd_T60 l i).f2 (rd_T60 l i).f3 (rd_T60 l i).f4 := by
  have hll : last < (l.length : Int) := by omega
  simp only [impl_tariffAt.l0]
  rw [if_pos h1, if_pos h0, if_pos h1, if_pos cz]
  by_cases c2 : last < 0
  · rw [if_pos c2]; simp [c2]
  · rw [if_neg c2, if_pos (by omega), if_pos hll]; simp [c2]
theorem imAt_loop (l : List S60) (hl : (l.length : Int) ≤ 1048576) (zone t : Int) (d : Nat) : ∀ (i best last : Int), 0 ≤ i → (l.length : Int) - i = d → (-1 ≤ best ∧ best < i) → (-1 ≤ last ∧ last < i) →
    Ev (fun k => impl_tariffAt.l0 k l zone t best last l l.length i) (atFrom l zone (Int.tmod t 86400) d i best last) := by
  induction d with
  | zero =>
    intro i best last h0 hd hb hla
    unfold atFrom
    refine Ev.step (f := fun _ => some (if best < 0 then last else best)) (fun k => ?_) (Ev.now _)
    simp only [impl_tariffAt.l0]
    rw [if_neg (by omega)]
    split <;> rfl
  | succ d ih =>
    intro i best last h0 hd hb hla
    have ei : wrap64 (i + 1) = i + 1 := w64 (by omega)
    unfold atFrom
    by_cases cz : (rd_T60 l i).f0 = zone
    · rw [if_pos cz]
      refine Ev.step (fun k => imAt_l0 l k zone t best last i h0 (by omega) hla cz) (Ev.step (fun k => imAt_j1 l k zone t best last i _ h0 (by omega) hb) ?_)
      rw [ei]
      have e : (if decide (last < 0 ∨ (rd_T60 l i).f1 > (rd_T60 l last).f1) = true then i else last) = lastOf l last i := by unfold lastOf; simp only [decide_eq_true_eq]
      rw [e]
      exact ih (i + 1) _ _ (by omega) (by omega) (bestOf_in l _ best i h0 hb) (lastOf_in l last i h0 hla)
    · rw [if_neg cz]
      refine Ev.step (fun k => ?_) (ih (i + 1) best last (by omega) (by omega) (by omega) (by omega))
      simp only [impl_tariffAt.l0]
      rw [if_pos (by omega), if_pos h0, if_pos (by omega), if_neg cz, ei]

theorem in_impl (a b c : Int) : impl_in.f a b c = some (decide (b ≤ a) && decide (a ≤ c)) := by
  unfold impl_in.f
  by_cases q : a ≥ b
  · rw [if_pos q]; simp [q]
  · rw [if_neg q]; simp [q]
theorem tick_spec (a : Int) : spec_l4Tick.f a = some (decide (0 ≤ a) && decide (a ≤ 1000000000)) := by simp only [spec_l4Tick.f, in_spec, Option.bind_some]
def tarV (l : List S60) : Bool := tarOk [] l && decide (l.length ≤ 40)
def tickV (t : Int) : Bool := decide (0 ≤ t) && decide (t ≤ 1000000000)
def atV (l : List S60) (zone t : Int) : Int := atFrom l zone (Int.tmod t 86400) l.length 0 (-1) (-1)
def tariffAt (l : List S60) (zone t : Int) : Int × Bool := if (tarV l && tickV t) = true then (atV l zone t, decide (atV l zone t ≥ 0)) else (-1, false)
theorem at_spec (l : List S60) (hl : (l.length : Int) ≤ 1048576) (zone t : Int) : Ev (fun k => spec_TariffAt.f k l zone t) (tariffAt l zone t) := by
  have J : ∀ b : Bool, Ev (fun k => spec_TariffAt.j0 k l zone t (!b)) (if b = true then (atV l zone t, decide (atV l zone t ≥ 0)) else (-1, false)) := by
    intro b
    cases b
    · exact Ev.step (f := fun _ => some (-1, false)) (fun k => by simp only [spec_TariffAt.j0, Bool.not_false, if_true]) (Ev.now _)
    · exact Ev.step (fun k => by simp only [spec_TariffAt.j0, Bool.not_true, Bool.false_eq_true, if_false]) (specAt_loop l hl zone _ l.length 0 (-1) (-1) (by omega) (by omega) (by omega) (by omega))
  refine Ev.congr (f := fun k => (spec_TariffsOk.f k l).bind fun t129 => if t129 = true then spec_TariffAt.j0 k l zone t (!tickV t) else spec_TariffAt.j0 k l zone t (!false)) (fun k => ?_) (Ev.bind (tar_spec l hl) ?_)
  · unfold spec_TariffAt.f
    simp only [tick_spec, Option.bind_some, Bool.not_false]
    rfl
  · unfold tariffAt
    rw [show (tarOk [] l && decide (l.length ≤ 40)) = tarV l from rfl]
    cases tarV l
    · simp only [Bool.false_and, Bool.false_eq_true, if_false]; exact J false
    · simp only [Bool.true_and, if_true]; exact J (tickV t)
theorem at_impl0 (l : List S60) (hl : (l.length : Int) ≤ 1048576) (zone t : Int) : Ev (fun k => impl_tariffAt.f k l zone t) (atV l zone t) :=
  imAt_loop l hl zone t l.length 0 (-1) (-1) (by omega) (by omega) (by omega) (by omega)
theorem tarok_impl (l : List S60) (hl : (l.length : Int) ≤ 1048576) : impl_TariffsOk.f l = some (tarV l) := by rw [impl_TariffsOk.f, if_pos (by omega)]; rfl
theorem at_impl (l : List S60) (hl : (l.length : Int) ≤ 1048576) (zone t : Int) : Ev (fun k => impl_TariffAt.f k l zone t) (tariffAt l zone t) := by
  refine Ev.congr (f := fun k => if tarV l = true then (if tickV t = true then (impl_tariffAt.f k l zone t).bind fun t146 => some (t146, decide (t146 ≥ 0)) else some (-1, false)) else some (-1, false)) (fun k => ?_) ?_
  · unfold impl_TariffAt.f
    simp only [tarok_impl l hl, in_impl, Option.bind_some]
    rfl
  · unfold tariffAt
    cases tarV l
    · simp only [Bool.false_and, Bool.false_eq_true, if_false]; exact Ev.now _
    · simp only [Bool.true_and, if_true]
      cases tickV t
      · simp only [Bool.false_eq_true, if_false]; exact Ev.now _
      · simp only [if_true]; exact Ev.bind (at_impl0 l hl zone t) (Ev.now _)

def zoneIn (l : List S60) (zone : Int) : Nat → Int → Prop
  | 0, _ => False
  | d + 1, i => (rd_T60 l i).f0 = zone ∨ zoneIn l zone d (i + 1)
theorem atFrom_pos (l : List S60) (zone tick : Int) : ∀ (d : Nat) (i best last : Int), 0 ≤ i → (0 ≤ best → 0 ≤ last) → (0 ≤ atFrom l zone tick d i best last ↔ zoneIn l zone d i ∨ 0 ≤ last)
  | 0, i, best, last, h0, h => by
    unfold atFrom zoneIn
    split <;> simp <;> omega
  | d + 1, i, best, last, h0, h => by
    have hz : zoneIn l zone (d + 1) i ↔ (rd_T60 l i).f0 = zone ∨ zoneIn l zone d (i + 1) := Iff.rfl
    by_cases c : (rd_T60 l i).f0 = zone
    · have e : atFrom l zone tick (d + 1) i best last = atFrom l zone tick d (i + 1) (bestOf l tick best i) (lastOf l last i) := by rw [atFrom, if_pos c]
      have hl : 0 ≤ lastOf l last i := by unfold lastOf; split <;> omega
      rw [e, atFrom_pos l zone tick d (i + 1) _ _ (by omega) (fun _ => hl), hz]
      simp [c, hl]
    · have e : atFrom l zone tick (d + 1) i best last = atFrom l zone tick d (i + 1) best last := by rw [atFrom, if_neg c]
      rw [e, atFrom_pos l zone tick d (i + 1) _ _ (by omega) h, hz]
      simp [c]
theorem atV_pos (l : List S60) (zone t t' : Int) (h : 0 ≤ atV l zone t) : 0 ≤ atV l zone t' := by
  unfold atV at *
  rw [atFrom_pos l zone _ _ _ _ _ (by omega) (by omega)] at *
  exact h
theorem atV_lt (l : List S60) (zone t : Int) : -1 ≤ atV l zone t ∧ atV l zone t < l.length := by
  have := atFrom_in l zone (Int.tmod t 86400) l.length 0 (-1) (-1) (by omega) (by omega) (by omega)
  unfold atV
  omega
theorem tarOk_all : ∀ (l : List S60) (seen : List (Int × Int)), tarOk seen l = true → ∀ t ∈ l, tarOne t = true
  | [], _, _, t, ht => by cases ht
  | x :: xs, seen, h, t, ht => by
    rw [tarOk] at h
    by_cases c : tarOne x = true ∧ (x.f0, x.f1) ∉ seen
    · rw [if_pos c] at h
      rcases List.mem_cons.1 ht with rfl | ht
      · exact c.1
      · exact tarOk_all xs _ h t ht
    · rw [if_neg c] at h; cases h
theorem tarV_one {l : List S60} (h : tarV l = true) (i : Int) (h0 : 0 ≤ i) (h1 : i < l.length) : tarOne (rd_T60 l i) = true := by
  unfold tarV at h
  simp only [Bool.and_eq_true] at h
  refine tarOk_all l [] h.1 _ ?_
  have : rd_T60 l i = l[i.toNat] := getD_at l z60 i.toNat (by omega)
  rw [this]
  exact List.getElem_mem _
theorem tarV_step {l : List S60} (h : tarV l = true) (i : Int) (h0 : 0 ≤ i) (h1 : i < l.length) : 1 ≤ (rd_T60 l i).f2 ∧ (rd_T60 l i).f2 ≤ 10000 := by
  have := tarV_one h i h0 h1
  unfold tarOne at this
  simp only [Bool.and_eq_true, decide_eq_true_eq] at this
  omega
theorem tariffAt_in {l : List S60} (h : tarV l = true) (zone t : Int) (h0 : 0 ≤ t) (h1 : t ≤ 1000000000) : tariffAt l zone t = (atV l zone t, decide (atV l zone t ≥ 0)) := by
  unfold tariffAt
  rw [if_pos (by simp [h, tickV, h0, h1])]
def rateFrom (l : List S60) (zone e : Int) : Nat → Int → Int → Int → Int × Int
  | 0, _, n, c => (n, c)
  | d + 1, t, n, c => if t < e then rateFrom l zone e d (t + (rd_T60 l (atV l zone t)).f2) (wrap64 (n + 1)) (wrap64 (c + (rd_T60 l (atV l zone t)).f3)) else (n, c)

def ticksV (a b : Int) : Bool := tickV a && (decide (a ≤ b) && decide (b ≤ a + 86400)) && tickV b
theorem ticks_spec (a b : Int) : spec_l9Ticks.f a b = some (ticksV a b) := by
  unfold spec_l9Ticks.f ticksV tickV
  simp only [tick_spec, in_spec, Option.bind_some]
  by_cases c : 0 ≤ a ∧ a ≤ 1000000000
  · rw [w64 (by omega)]
    by_cases c2 : (decide (a ≤ b) && decide (b ≤ a + 86400)) = true <;> simp [c, c2]
  · have : (decide (0 ≤ a) && decide (a ≤ 1000000000)) = false := by simpa using c
    simp [this]
theorem rate_spec_loop (l : List S60) (hl : (l.length : Int) ≤ 1048576) (hv : tarV l = true) (zone e : Int) (he : e ≤ 1000000000) (hz : 0 ≤ atV l zone 0) (d : Nat) : ∀ (t n c : Int), 0 ≤ t → t ≤ 1000010000 → e - t ≤ d →
    Ev (fun k => spec_Rate.l0 k l zone e t n c) ((rateFrom l zone e d t n c).1, (rateFrom l zone e d t n c).2, true) := by
  induction d with
  | zero =>
    intro t n c h0 h2 h1
    refine Ev.step (f := fun _ => some (n, c, true)) (fun k => ?_) (Ev.now _)
    simp only [spec_Rate.l0]
    rw [if_neg (by omega)]
  | succ d ih =>
    intro t n c h0 h2 h1
    unfold rateFrom
    by_cases ct : t < e
    · have hz' := atV_pos l zone 0 t hz
      have hlt := (atV_lt l zone t).2
      have hs := tarV_step hv _ hz' hlt
      rw [if_pos ct]
      refine Ev.step (f := fun k => (spec_TariffAt.f k l zone t).bind fun bt148 => (if 0 ≤ bt148.1 then (if bt148.1 < (l.length : Int) then (spec_Rate.l0 k l zone e (wrap64 (t + ((rd_T60 l bt148.1).f2))) (wrap64 (n + 1)) (wrap64 (c + ((rd_T60 l bt148.1).f3)))) else (none)) else (none))) (fun k => ?_) (Ev.bind (at_spec l hl zone t) ?_)
      · simp only [spec_Rate.l0]
        rw [if_pos ct]
      · rw [tariffAt_in hv zone t h0 (by omega)]
        simp only [if_pos hz', if_pos hlt]
        rw [w64 (x := t + _) (by omega)]
        exact ih _ _ _ (by omega) (by omega) (by omega)
    · rw [if_neg ct]
      refine Ev.step (f := fun _ => some (n, c, true)) (fun k => ?_) (Ev.now _)
      simp only [spec_Rate.l0]
      rw [if_neg ct]
theorem rate_impl_loop (l : List S60) (hl : (l.length : Int) ≤ 1048576) (hv : tarV l = true) (zone e : Int) (he : e ≤ 1000000000) (hz : 0 ≤ atV l zone 0) (d : Nat) : ∀ (t n c : Int), 0 ≤ t → t ≤ 1000010000 → e - t ≤ d →
    Ev (fun k => impl_Rate.l0 k l zone e t n c) ((rateFrom l zone e d t n c).1, (rateFrom l zone e d t n c).2, true) := by
  induction d with
  | zero =>
    intro t n c h0 h2 h1
    refine Ev.step (f := fun _ => some (n, c, true)) (fun k => ?_) (Ev.now _)
    simp only [impl_Rate.l0]
    rw [if_neg (by omega)]
  | succ d ih =>
    intro t n c h0 h2 h1
    unfold rateFrom
    by_cases ct : t < e
    · have hz' := atV_pos l zone 0 t hz
      have hlt := (atV_lt l zone t).2
      have hs := tarV_step hv _ hz' hlt
      rw [if_pos ct]
      refine Ev.step (f := fun k => (impl_tariffAt.f k l zone t).bind fun t166 => (if 0 ≤ t166 then (if t166 < (l.length : Int) then (impl_Rate.l0 k l zone e (wrap64 (t + ((rd_T60 l t166).f2))) (wrap64 (n + 1)) (wrap64 (c + ((rd_T60 l t166).f3)))) else (none)) else (none))) (fun k => ?_) (Ev.bind (at_impl0 l hl zone t) ?_)
      · simp only [impl_Rate.l0]
        rw [if_pos ct]
      · simp only [if_pos hz', if_pos hlt]
        rw [w64 (x := t + _) (by omega)]
        exact ih _ _ _ (by omega) (by omega) (by omega)
    · rw [if_neg ct]
      refine Ev.step (f := fun _ => some (n, c, true)) (fun k => ?_) (Ev.now _)
      simp only [impl_Rate.l0]
      rw [if_neg ct]
def rateV (l : List S60) (zone a e : Int) : Int × Int × Bool :=
  if (tarV l && tickV a && decide (0 ≤ atV l zone a) && ticksV a e) = true then ((rateFrom l zone e (e - a).toNat a 0 (rd_T60 l (atV l zone a)).f4).1, (rateFrom l zone e (e - a).toNat a 0 (rd_T60 l (atV l zone a)).f4).2, true) else (0, 0, false)
theorem rate_spec (l : List S60) (hl : (l.length : Int) ≤ 1048576) (zone a e : Int) : Ev (fun k => spec_Rate.f k l zone a e) (rateV l zone a e) := by
  refine Ev.congr (f := fun k => (spec_TariffAt.f k l zone a).bind fun bt143 => if bt143.2 = true then spec_Rate.j0 k l zone a e bt143.1 (!ticksV a e) else spec_Rate.j0 k l zone a e bt143.1 true) (fun k => ?_) (Ev.bind (at_spec l hl zone a) ?_)
  · unfold spec_Rate.f
    simp only [ticks_spec, Option.bind_some]
  · have N : ∀ i, Ev (fun k => spec_Rate.j0 k l zone a e i true) (0, 0, false) := fun i => Ev.step (f := fun _ => some (0, 0, false)) (fun k => by simp only [spec_Rate.j0, if_true]) (Ev.now _)
    by_cases c1 : (tarV l && tickV a) = true
    · rw [show tariffAt l zone a = (atV l zone a, decide (atV l zone a ≥ 0)) by unfold tariffAt; rw [if_pos c1]]
      by_cases c2 : atV l zone a ≥ 0
      · simp only [c2, decide_true, if_true]
        cases c3 : ticksV a e
        · have : rateV l zone a e = (0, 0, false) := by unfold rateV; rw [if_neg (by simp [c3])]
          rw [this]; exact N _
        · have hv : tarV l = true := by simp only [Bool.and_eq_true] at c1; exact c1.1
          have ht := c3
          unfold ticksV tickV at ht
          simp only [Bool.and_eq_true, decide_eq_true_eq] at ht
          have : rateV l zone a e = ((rateFrom l zone e (e - a).toNat a 0 (rd_T60 l (atV l zone a)).f4).1, (rateFrom l zone e (e - a).toNat a 0 (rd_T60 l (atV l zone a)).f4).2, true) := by unfold rateV; rw [if_pos (by simp only [c1, c3, Bool.and_true, Bool.true_and, decide_eq_true_eq]; omega)]
          rw [this]
          refine Ev.step (fun k => ?_) (rate_spec_loop l hl hv zone e (by omega) (atV_pos l zone a 0 c2) (e - a).toNat a 0 (rd_T60 l (atV l zone a)).f4 (by omega) (by omega) (by omega))
          simp only [spec_Rate.j0, Bool.not_true, Bool.false_eq_true, if_false]
          rw [if_pos (by omega), if_pos (atV_lt l zone a).2]
      · have : rateV l zone a e = (0, 0, false) := by unfold rateV; rw [if_neg (by simp; omega)]
        rw [this]
        simp only [c2, decide_false, Bool.false_eq_true, if_false]; exact N _
    · have : rateV l zone a e = (0, 0, false) := by unfold rateV; rw [if_neg (fun q => c1 (by simp only [Bool.and_eq_true] at q ⊢; exact q.1.1))]
      rw [this]
      rw [show tariffAt l zone a = (-1, false) by unfold tariffAt; rw [if_neg c1]]
      simp only [Bool.false_eq_true, if_false]; exact N _
theorem rate_impl (l : List S60) (hl : (l.length : Int) ≤ 1048576) (zone a e : Int) : Ev (fun k => impl_Rate.f k l zone a e) (rateV l zone a e) := by
  refine Ev.congr (f := fun k => (impl_TariffAt.f k l zone a).bind fun bt143 => if bt143.2 = true then impl_Rate.j0 k l zone a e bt143.1 (!(decide (a ≤ e) && decide (e ≤ mn (wrap64 (a + 86400)) 1000000000))) else impl_Rate.j0 k l zone a e bt143.1 true) (fun k => ?_) (Ev.bind (at_impl l hl zone a) ?_)
  · unfold impl_Rate.f
    simp only [in_impl, Option.bind_some]
  · have N : ∀ i, Ev (fun k => impl_Rate.j0 k l zone a e i true) (0, 0, false) := fun i => Ev.step (f := fun _ => some (0, 0, false)) (fun k => by simp only [impl_Rate.j0, if_true]) (Ev.now _)
    by_cases c1 : (tarV l && tickV a) = true
    · rw [show tariffAt l zone a = (atV l zone a, decide (atV l zone a ≥ 0)) by unfold tariffAt; rw [if_pos c1]]
      have hta : tickV a = true := by simp only [Bool.and_eq_true] at c1; exact c1.2
      have e3 : (decide (a ≤ e) && decide (e ≤ mn (wrap64 (a + 86400)) 1000000000)) = ticksV a e := by
        have ht := hta
        unfold tickV at ht
        simp only [Bool.and_eq_true, decide_eq_true_eq] at ht
        rw [w64 (by omega)]
        unfold ticksV
        rw [hta]
        unfold tickV mn
        rw [Bool.eq_iff_iff]
        simp only [Bool.and_eq_true, decide_eq_true_eq, true_and]
        split <;> omega
      by_cases c2 : atV l zone a ≥ 0
      · simp only [c2, decide_true, if_true, e3]
        cases c3 : ticksV a e
        · have : rateV l zone a e = (0, 0, false) := by unfold rateV; rw [if_neg (by simp [c3])]
          rw [this]; exact N _
        · have hv : tarV l = true := by simp only [Bool.and_eq_true] at c1; exact c1.1
          have ht := c3
          unfold ticksV tickV at ht
          simp only [Bool.and_eq_true, decide_eq_true_eq] at ht
          have : rateV l zone a e = ((rateFrom l zone e (e - a).toNat a 0 (rd_T60 l (atV l zone a)).f4).1, (rateFrom l zone e (e - a).toNat a 0 (rd_T60 l (atV l zone a)).f4).2, true) := by unfold rateV; rw [if_pos (by simp only [c1, c3, Bool.and_true, Bool.true_and, decide_eq_true_eq]; omega)]
          rw [this]
          refine Ev.step (fun k => ?_) (rate_impl_loop l hl hv zone e (by omega) (atV_pos l zone a 0 c2) (e - a).toNat a 0 (rd_T60 l (atV l zone a)).f4 (by omega) (by omega) (by omega))
          simp only [impl_Rate.j0, Bool.not_true, Bool.false_eq_true, if_false]
          rw [if_pos (by omega), if_pos (atV_lt l zone a).2]
      · have : rateV l zone a e = (0, 0, false) := by unfold rateV; rw [if_neg (by simp; omega)]
        rw [this]
        simp only [c2, decide_false, Bool.false_eq_true, if_false]; exact N _
    · have : rateV l zone a e = (0, 0, false) := by unfold rateV; rw [if_neg (fun q => c1 (by simp only [Bool.and_eq_true] at q ⊢; exact q.1.1))]
      rw [this]
      rw [show tariffAt l zone a = (-1, false) by unfold tariffAt; rw [if_neg c1]]
      simp only [Bool.false_eq_true, if_false]; exact N _

def cutsFrom (m : List Int) (a e : Int) : Nat → Int → Bool
  | 0, _ => true
  | d + 1, i => if (decide (a ≤ rd m i) && decide (rd m i ≤ e)) = true then (if i > 0 ∧ rd m (i - 1) ≥ rd m i then false else cutsFrom m a e d (i + 1)) else false
def partsV (l : List S60) (zone a e : Int) (m : List Int) (ok : Bool) : Int × Int × Bool := if ok = true then (if (m.length : Int) > 100 then (0, 0, false) else rateV l zone a e) else (0, 0, false)
theorem parts_spec_loop (l : List S60) (hl : (l.length : Int) ≤ 1048576) (zone a e : Int) (m : List Int) (hm : (m.length : Int) ≤ 1048576) (d : Nat) : ∀ i : Int, 0 ≤ i → (m.length : Int) - i = d →
    Ev (fun k => spec_RateParts.l0 k l zone a e m i) (partsV l zone a e m (cutsFrom m a e d i)) := by
  induction d with
  | zero =>
    intro i h0 hd
    unfold cutsFrom partsV
    rw [if_pos rfl]
    by_cases q : (m.length : Int) > 100
    · rw [if_pos q]
      refine Ev.step (f := fun _ => some (0, 0, false)) (fun k => ?_) (Ev.now _)
      simp only [spec_RateParts.l0]
      rw [if_neg (by omega), if_pos q]
    · rw [if_neg q]
      refine Ev.step (f := fun k => (spec_Rate.f k l zone a e).bind fun bt159 => some (bt159.1, bt159.2.1, bt159.2.2)) (fun k => ?_) (Ev.bind (rate_spec l hl zone a e) (Ev.now _))
      simp only [spec_RateParts.l0]
      rw [if_neg (by omega), if_neg q]
  | succ d ih =>
    intro i h0 hd
    have ei : wrap64 (i + 1) = i + 1 := w64 (by omega)
    have ej : wrap64 (i - 1) = i - 1 := w64 (by omega)
    unfold cutsFrom
    by_cases c1 : (decide (a ≤ rd m i) && decide (rd m i ≤ e)) = true
    · rw [if_pos c1]
      by_cases c2 : i > 0
      · by_cases c3 : rd m (i - 1) ≥ rd m i
        · rw [if_pos ⟨c2, c3⟩]
          refine Ev.step (f := fun _ => some (0, 0, false)) (fun k => ?_) (Ev.now _)
          simp only [spec_RateParts.l0, in_spec, Option.bind_some]
          rw [if_pos (by omega), if_pos h0, if_pos c1, if_pos c2, ej, if_pos (by omega), if_pos (by omega), if_pos c3]
        · rw [if_neg (fun q => c3 q.2)]
          refine Ev.step (fun k => ?_) (ih (i + 1) (by omega) (by omega))
          simp only [spec_RateParts.l0, in_spec, Option.bind_some]
          rw [if_pos (by omega), if_pos h0, if_pos c1, if_pos c2, ej, if_pos (by omega), if_pos (by omega), if_neg c3, ei]
      · rw [if_neg (fun q => c2 q.1)]
        refine Ev.step (fun k => ?_) (ih (i + 1) (by omega) (by omega))
        simp only [spec_RateParts.l0, in_spec, Option.bind_some]
        rw [if_pos (by omega), if_pos h0, if_pos c1, if_neg c2, ei]
    · rw [if_neg c1]
      refine Ev.step (f := fun _ => some (0, 0, false)) (fun k => ?_) (Ev.now _)
      simp only [spec_RateParts.l0, in_spec, Option.bind_some]
      rw [if_pos (by omega), if_pos h0, if_neg c1]
theorem parts_impl_loop (l : List S60) (hl : (l.length : Int) ≤ 1048576) (zone a e : Int) (m : List Int) (hm : (m.length : Int) ≤ 1048576) (d : Nat) : ∀ i : Int, 0 ≤ i → (m.length : Int) - i = d →
    Ev (fun k => impl_RateParts.l0 k l zone a e m m m.length i) (partsV l zone a e m (cutsFrom m a e d i)) := by
  induction d with
  | zero =>
    intro i h0 hd
    unfold cutsFrom partsV
    rw [if_pos rfl]
    by_cases q : (m.length : Int) > 100
    · rw [if_pos q]
      refine Ev.step (f := fun _ => some (0, 0, false)) (fun k => ?_) (Ev.now _)
      simp only [impl_RateParts.l0]
      rw [if_neg (by omega), if_pos q]
    · rw [if_neg q]
      refine Ev.step (f := fun k => (impl_Rate.f k l zone a e).bind fun bt159 => some (bt159.1, bt159.2.1, bt159.2.2)) (fun k => ?_) (Ev.bind (rate_impl l hl zone a e) (Ev.now _))
      simp only [impl_RateParts.l0]
      rw [if_neg (by omega), if_neg q]
  | succ d ih =>
    intro i h0 hd
    have ei : wrap64 (i + 1) = i + 1 := w64 (by omega)
    have ej : wrap64 (i - 1) = i - 1 := w64 (by omega)
    have hi : i < (m.length : Int) := by omega
    unfold cutsFrom
    by_cases c1 : (decide (a ≤ rd m i) && decide (rd m i ≤ e)) = true
    · rw [if_pos c1]
      by_cases c2 : i > 0
      · by_cases c3 : rd m (i - 1) ≥ rd m i
        · rw [if_pos ⟨c2, c3⟩]
          refine Ev.step (f := fun _ => some (0, 0, false)) (fun k => ?_) (Ev.now _)
          simp only [impl_RateParts.l0, in_impl, Option.bind_some]
          rw [if_pos hi, if_pos h0, if_pos hi, if_pos c1, if_pos c2, ej, if_pos (by omega), if_pos (by omega), if_pos c3]
        · rw [if_neg (fun q => c3 q.2)]
          refine Ev.step (fun k => ?_) (ih (i + 1) (by omega) (by omega))
          simp only [impl_RateParts.l0, in_impl, Option.bind_some]
          rw [if_pos hi, if_pos h0, if_pos hi, if_pos c1, if_pos c2, ej, if_pos (by omega), if_pos (by omega), if_neg c3, ei]
      · rw [if_neg (fun q => c2 q.1)]
        refine Ev.step (fun k => ?_) (ih (i + 1) (by omega) (by omega))
        simp only [impl_RateParts.l0, in_impl, Option.bind_some]
        rw [if_pos hi, if_pos h0, if_pos hi, if_pos c1, if_neg c2, ei]
    · rw [if_neg c1]
      refine Ev.step (f := fun _ => some (0, 0, false)) (fun k => ?_) (Ev.now _)
      simp only [impl_RateParts.l0, in_impl, Option.bind_some]
      rw [if_pos hi, if_pos h0, if_pos hi, if_neg c1]

theorem tarV_price {l : List S60} (h : tarV l = true) (i : Int) (h0 : 0 ≤ i) (h1 : i < l.length) : (0 ≤ (rd_T60 l i).f3 ∧ (rd_T60 l i).f3 ≤ 100000) ∧ (0 ≤ (rd_T60 l i).f4 ∧ (rd_T60 l i).f4 ≤ 100000) := by
  have := tarV_one h i h0 h1
  unfold tarOne at this
  simp only [Bool.and_eq_true, decide_eq_true_eq] at this
  omega
/-- What the walk through the tariffs keeps: the cost is bounded by the ticks gone. -/
def Fair (a c t : Int) : Prop := 0 ≤ c ∧ c ≤ 100000 * (t - a + 1) ∧ a ≤ t ∧ 0 ≤ a ∧ t ≤ a + 200000 ∧ a ≤ 1000000000
theorem fair_step {l : List S60} (hv : tarV l = true) (zone : Int) (hz : 0 ≤ atV l zone 0) {a c t : Int} (h : Fair a c t) (ht : t ≤ a + 100000) :
    wrap64 (c + (rd_T60 l (atV l zone t)).f3) = c + (rd_T60 l (atV l zone t)).f3 ∧ Fair a (c + (rd_T60 l (atV l zone t)).f3) (t + (rd_T60 l (atV l zone t)).f2) ∧ 1 ≤ (rd_T60 l (atV l zone t)).f2 ∧ 0 ≤ (rd_T60 l (atV l zone t)).f3 := by
  have hs := tarV_step hv _ (atV_pos l zone 0 t hz) (atV_lt l zone t).2
  have hp := (tarV_price hv _ (atV_pos l zone 0 t hz) (atV_lt l zone t).2).1
  unfold Fair at *
  refine ⟨w64 (by omega), by omega, hs.1, hp.1⟩
theorem rate_ge (l : List S60) (hv : tarV l = true) (zone a e : Int) (he : e ≤ a + 100000) (hz : 0 ≤ atV l zone 0) : ∀ (D : Nat) (c t n : Int), Fair a c t → c ≤ (rateFrom l zone e D t n c).2
  | 0, c, t, n, hf => by unfold rateFrom; omega
  | D + 1, c, t, n, hf => by
    unfold rateFrom
    by_cases ct : t < e
    · rw [if_pos ct]
      obtain ⟨e1, f1, _, p1⟩ := fair_step hv zone hz hf (by omega)
      rw [e1]
      have := rate_ge l hv zone a e he hz D _ _ (wrap64 (n + 1)) f1
      omega
    · rw [if_neg ct]; omega
theorem rate_mono (l : List S60) (hv : tarV l = true) (zone a e1 e2 : Int) (he : e1 ≤ e2) (he2 : e2 ≤ a + 100000) (hz : 0 ≤ atV l zone 0) : ∀ (D1 D2 : Nat) (c t n n2 : Int), Fair a c t → e2 - t ≤ D2 →
    (rateFrom l zone e1 D1 t n c).2 ≤ (rateFrom l zone e2 D2 t n2 c).2
  | 0, D2, c, t, n, n2, hf, hd => by
    have := rate_ge l hv zone a e2 he2 hz D2 c t n2 hf
    unfold rateFrom at *
    simp only at *
    omega
  | D1 + 1, D2, c, t, n, n2, hf, hd => by
    by_cases ct : t < e1
    · cases D2 with
      | zero => omega
      | succ D2 =>
        obtain ⟨e1', f1, s1, p1⟩ := fair_step hv zone hz hf (by omega)
        unfold rateFrom
        rw [if_pos ct, if_pos (by omega), e1']
        exact rate_mono l hv zone a e1 e2 he he2 hz D1 D2 _ _ _ _ f1 (by omega)
    · have := rate_ge l hv zone a e2 he2 hz D2 c t n2 hf
      have e : (rateFrom l zone e1 (D1 + 1) t n c).2 = c := by unfold rateFrom; rw [if_neg ct]
      rw [e]
      exact this


/-! The cursor over what is drawn: it never falls, whatever its numbers -/
theorem and_bound (x m : Int) (h0 : 0 ≤ m) (h1 : m ≤ 2000000000) : 0 ≤ Go.bits .and .i64 x m ∧ Go.bits .and .i64 x m ≤ m := by
  have e : (BitVec.ofInt 64 m).toNat = m.toNat := by
    rw [BitVec.toNat_ofInt]
    have : m % ((2 ^ 64 : Nat) : Int) = m := Int.emod_eq_of_lt h0 (by omega)
    rw [this]
  have hle : (BitVec.ofInt 64 x &&& BitVec.ofInt 64 m).toNat ≤ m.toNat := by
    rw [BitVec.toNat_and, e]
    exact Nat.and_le_right
  have hw : Go.bits .and .i64 x m = ((BitVec.ofInt 64 x &&& BitVec.ofInt 64 m).toNat : Int) := by
    show IntKind.i64.wrap (((BitVec.ofInt 64 x &&& BitVec.ofInt 64 m).toNat : Nat) : Int) = _
    rw [IntKind.wrap_i64]
    omega
  omega
theorem byte_ok (l : List Int) (s1 s2 : Int) (hl : (l.length : Int) ≤ 1048576) (h0 : 0 ≤ s1) : ∃ b t1 t2, spec_l1Byte.f l s1 s2 = some (b, t1, t2) ∧ 0 ≤ b ∧ b ≤ 255 ∧ 0 ≤ t1 := by
  unfold spec_l1Byte.f
  by_cases c : s1 < (l.length : Int)
  · rw [if_pos c, if_pos h0]
    refine ⟨_, _, _, rfl, (and_bound _ 255 (by omega) (by omega)).1, (and_bound _ 255 (by omega) (by omega)).2, ?_⟩
    rw [w64 (by omega)]
    omega
  · rw [if_neg c]
    exact ⟨_, _, _, rfl, (and_bound _ 255 (by omega) (by omega)).1, (and_bound _ 255 (by omega) (by omega)).2, h0⟩
theorem below_ok (l : List Int) (s1 s2 n : Int) (hl : (l.length : Int) ≤ 1048576) (h0 : 0 ≤ s1) : ∃ r t1 t2, spec_l1Below.f l s1 s2 n = some (r, t1, t2) ∧ 0 ≤ t1 ∧ (0 < n → 0 ≤ r ∧ r < n) ∧ (n ≤ 0 → r = 0) := by
  unfold spec_l1Below.f
  by_cases c : n ≤ 0
  · rw [if_pos c]
    exact ⟨_, _, _, rfl, h0, fun h => absurd h (by omega), fun _ => rfl⟩
  · rw [if_neg c]
    by_cases c2 : n ≤ 256
    · rw [if_pos c2]
      obtain ⟨b, t1, t2, e, b0, b1, b2⟩ := byte_ok l s1 s2 hl h0
      rw [e]
      simp only [Option.bind_some]
      rw [if_neg (by omega)]
      refine ⟨_, _, _, rfl, b2, fun _ => ?_, fun h => absurd h (by omega)⟩
      rw [Int.tmod_eq_emod_of_nonneg b0]
      exact ⟨Int.emod_nonneg _ (by omega), Int.emod_lt_of_pos _ (by omega)⟩
    · rw [if_neg c2]
      obtain ⟨b, t1, t2, e, b0, b1, b2⟩ := byte_ok l s1 s2 hl h0
      rw [e]
      simp only [Option.bind_some]
      obtain ⟨b', t1', t2', e', b0', b1', b2'⟩ := byte_ok l t1 t2 hl b2
      rw [e']
      simp only [Option.bind_some]
      obtain ⟨b'', t1'', t2'', e'', b0'', b1'', b2''⟩ := byte_ok l t1' t2' hl b2'
      rw [e'']
      simp only [Option.bind_some]
      obtain ⟨c', u1, u2, f, g0, g1, g2⟩ := byte_ok l t1'' t2'' hl b2''
      rw [f]
      simp only [Option.bind_some]
      rw [if_neg (by omega)]
      refine ⟨_, _, _, rfl, g2, fun _ => ?_, fun h => absurd h (by omega)⟩
      rw [Int.tmod_eq_emod_of_nonneg (by unfold wrap64; omega)]
      exact ⟨Int.emod_nonneg _ (by omega), Int.emod_lt_of_pos _ (by omega)⟩
theorem once_ok (l : List Int) (s1 s2 n : Int) (hl : (l.length : Int) ≤ 1048576) (h0 : 0 ≤ s1) : ∃ r t1 t2, spec_l1Once.f l s1 s2 n = some (r, t1, t2) ∧ 0 ≤ t1 := by
  unfold spec_l1Once.f
  obtain ⟨r, t1, t2, e, h, _⟩ := below_ok l s1 s2 n hl h0
  rw [e]
  exact ⟨_, _, _, rfl, h⟩
theorem new_ok (l : List Int) (hl : (l.length : Int) ≤ 1048576) : ∃ h, Ev (fun k => spec_l1New.f k l) (l, 0, h) := by
  have key : ∀ (d : Nat) (i h : Int), 0 ≤ i → i ≤ l.length → (l.length : Int) - i = d → ∃ h', Ev (fun k => spec_l1New.l0 k l h i) (l, 0, h') := by
    intro d
    induction d with
    | zero =>
      intro i h h0 h1 hd
      refine ⟨h, Ev.step (f := fun _ => some (l, 0, h)) (fun k => ?_) (Ev.now _)⟩
      simp only [spec_l1New.l0]
      rw [if_neg (by omega)]
    | succ d ih =>
      intro i h h0 h1 hd
      have ei : wrap64 (i + 1) = i + 1 := w64 (by omega)
      by_cases c : i < 4000
      · obtain ⟨h', hh⟩ := ih (i + 1) (Go.bits .and .i64 (wrap64 ((wrap64 ((wrap64 (h * 131)) + (wrap64 (rd l i)))) + 7)) 1073741823) (by omega) (by omega) (by omega)
        refine ⟨h', Ev.step (fun k => ?_) hh⟩
        simp only [spec_l1New.l0]
        rw [if_pos (by omega), if_pos c, if_pos h0, ei]
      · refine ⟨h, Ev.step (f := fun _ => some (l, 0, h)) (fun k => ?_) (Ev.now _)⟩
        simp only [spec_l1New.l0]
        rw [if_pos (by omega), if_neg c]
  exact key l.length 0 _ (by omega) (by omega) (by omega)

theorem byte_ok2 (l : List Int) (s1 s2 : Int) (hl : (l.length : Int) ≤ 2000000) (h0 : 0 ≤ s1) : ∃ b t1 t2, spec_l1Byte.f l s1 s2 = some (b, t1, t2) ∧ 0 ≤ b ∧ b ≤ 255 ∧ 0 ≤ t1 := by
  unfold spec_l1Byte.f
  by_cases c : s1 < (l.length : Int)
  · rw [if_pos c, if_pos h0]
    refine ⟨_, _, _, rfl, (and_bound _ 255 (by omega) (by omega)).1, (and_bound _ 255 (by omega) (by omega)).2, ?_⟩
    rw [w64 (by omega)]
    omega
  · rw [if_neg c]
    exact ⟨_, _, _, rfl, (and_bound _ 255 (by omega) (by omega)).1, (and_bound _ 255 (by omega) (by omega)).2, h0⟩
theorem below_ok2 (l : List Int) (s1 s2 n : Int) (hl : (l.length : Int) ≤ 2000000) (h0 : 0 ≤ s1) : ∃ r t1 t2, spec_l1Below.f l s1 s2 n = some (r, t1, t2) ∧ 0 ≤ t1 ∧ (0 < n → 0 ≤ r ∧ r < n) ∧ (n ≤ 0 → r = 0) := by
  unfold spec_l1Below.f
  by_cases c : n ≤ 0
  · rw [if_pos c]
    exact ⟨_, _, _, rfl, h0, fun h => absurd h (by omega), fun _ => rfl⟩
  · rw [if_neg c]
    by_cases c2 : n ≤ 256
    · rw [if_pos c2]
      obtain ⟨b, t1, t2, e, b0, b1, b2⟩ := byte_ok2 l s1 s2 hl h0
      rw [e]
      simp only [Option.bind_some]
      rw [if_neg (by omega)]
      refine ⟨_, _, _, rfl, b2, fun _ => ?_, fun h => absurd h (by omega)⟩
      rw [Int.tmod_eq_emod_of_nonneg b0]
      exact ⟨Int.emod_nonneg _ (by omega), Int.emod_lt_of_pos _ (by omega)⟩
    · rw [if_neg c2]
      obtain ⟨b, t1, t2, e, b0, b1, b2⟩ := byte_ok2 l s1 s2 hl h0
      rw [e]
      simp only [Option.bind_some]
      obtain ⟨b', t1', t2', e', b0', b1', b2'⟩ := byte_ok2 l t1 t2 hl b2
      rw [e']
      simp only [Option.bind_some]
      obtain ⟨b'', t1'', t2'', e'', b0'', b1'', b2''⟩ := byte_ok2 l t1' t2' hl b2'
      rw [e'']
      simp only [Option.bind_some]
      obtain ⟨c', u1, u2, f, g0, g1, g2⟩ := byte_ok2 l t1'' t2'' hl b2''
      rw [f]
      simp only [Option.bind_some]
      rw [if_neg (by omega)]
      refine ⟨_, _, _, rfl, g2, fun _ => ?_, fun h => absurd h (by omega)⟩
      rw [Int.tmod_eq_emod_of_nonneg (by unfold wrap64; omega)]
      exact ⟨Int.emod_nonneg _ (by omega), Int.emod_lt_of_pos _ (by omega)⟩
theorem new_ok2 (l : List Int) (hl : (l.length : Int) ≤ 2000000) : ∃ h, Ev (fun k => spec_l1New.f k l) (l, 0, h) := by
  have key : ∀ (d : Nat) (i h : Int), 0 ≤ i → i ≤ l.length → (l.length : Int) - i = d → ∃ h', Ev (fun k => spec_l1New.l0 k l h i) (l, 0, h') := by
    intro d
    induction d with
    | zero =>
      intro i h h0 h1 hd
      refine ⟨h, Ev.step (f := fun _ => some (l, 0, h)) (fun k => ?_) (Ev.now _)⟩
      simp only [spec_l1New.l0]
      rw [if_neg (by omega)]
    | succ d ih =>
      intro i h h0 h1 hd
      have ei : wrap64 (i + 1) = i + 1 := w64 (by omega)
      by_cases c : i < 4000
      · obtain ⟨h', hh⟩ := ih (i + 1) (Go.bits .and .i64 (wrap64 ((wrap64 ((wrap64 (h * 131)) + (wrap64 (rd l i)))) + 7)) 1073741823) (by omega) (by omega) (by omega)
        refine ⟨h', Ev.step (fun k => ?_) hh⟩
        simp only [spec_l1New.l0]
        rw [if_pos (by omega), if_pos c, if_pos h0, ei]
      · refine ⟨h, Ev.step (f := fun _ => some (l, 0, h)) (fun k => ?_) (Ev.now _)⟩
        simp only [spec_l1New.l0]
        rw [if_pos (by omega), if_neg c]
  exact key l.length 0 _ (by omega) (by omega) (by omega)


theorem pick_ok (l : List Int) (s1 s2 : Int) (p : List Int) (hl : (l.length : Int) ≤ 1048576) (h0 : 0 ≤ s1) (hp : 0 < p.length) : ∃ r t1 t2, spec_l1PickInt.f l s1 s2 p = some (r, t1, t2) ∧ 0 ≤ t1 ∧ r ∈ p := by
  unfold spec_l1PickInt.f
  obtain ⟨r, t1, t2, e, h, hr, _⟩ := below_ok l s1 s2 (p.length : Int) hl h0
  obtain ⟨r0, r1⟩ := hr (by omega)
  rw [e]
  simp only [Option.bind_some]
  rw [if_pos r0, if_pos r1]
  exact ⟨_, _, _, rfl, h, List.mem_of_getElem? (rd_at p r r0 r1)⟩


theorem big_eq (l : List Int) : laws_big.f l = some (decide ((l.length : Int) > 1048576)) := rfl
theorem at_ok (l : List Int) (i : Int) (hl : (l.length : Int) ≤ 1048576) (hb : ∀ x ∈ l, 0 ≤ x ∧ x ≤ 255) (h0 : 0 ≤ i) (h1 : i ≤ 100000000) : ∃ b, laws_at.f l i = some b ∧ 0 ≤ b ∧ b ≤ 255 := by
  unfold laws_at.f
  by_cases c : i < (l.length : Int)
  · rw [if_pos c, if_pos h0]
    have hm := hb _ (List.mem_of_getElem? (rd_at l i h0 c))
    rw [w64 (by omega)]
    exact ⟨_, rfl, hm⟩
  · rw [if_neg c]
    refine ⟨_, rfl, ?_⟩
    rw [w64 (x := i * 7) (by omega), w64 (by omega), Int.tmod_eq_emod_of_nonneg (by omega)]
    omega
theorem u8_range {x : Int} (h : (Lit.int .u8 x).wf = true) : 0 ≤ x ∧ x ≤ 255 := by
  simp [Lit.wf, IntKind.min, IntKind.max, IntKind.signed, IntKind.bits] at h
  omega

theorem l9_loop (s : List Int) (hs : (s.length : Int) ≤ 1048576) (d : Nat) : ∀ (x : List S60) (i s1 s2 : Int), i ≤ d → (x.length : Int) + d ≤ 1000 → 0 ≤ s1 →
    ∃ R t1 t2, Ev (fun k => spec_l9Draw.l0 k x i s s1 s2) (R, t1, t2) ∧ 0 ≤ t1 ∧ (R.length : Int) ≤ x.length + d := by
  induction d with
  | zero =>
    intro x i s1 s2 hi hx h0
    refine ⟨x, s1, s2, Ev.step (f := fun _ => some (x, s1, s2)) (fun k => ?_) (Ev.now _), h0, by omega⟩
    simp only [spec_l9Draw.l0]
    rw [if_neg (by omega)]
  | succ d ih =>
    intro x i s1 s2 hi hx h0
    by_cases c : i > 0
    · have ei : wrap64 (i - 1) = i - 1 := w64 (by omega)
      obtain ⟨r1, a1, b1, e1, p1, _⟩ := below_ok s s1 s2 2 hs h0
      obtain ⟨r2, a2, b2, e2, p2, _⟩ := pick_ok s a1 b1 [0, 100, 28800, 64800, 86399, 50] hs p1 (by decide)
      obtain ⟨r3, a3, b3, e3, p3, _⟩ := pick_ok s a2 b2 [60, 30, 7, 180, 1000, 45] hs p2 (by decide)
      obtain ⟨r4, a4, b4, e4, p4, _⟩ := below_ok s a3 b3 30 hs p3
      obtain ⟨r5, a5, b5, e5, p5, _⟩ := below_ok s a4 b4 20 hs p4
      have hl2 : (((x ++ [(⟨r1, r2, r3, r4, r5⟩ : S60)] : List S60).length : Nat) : Int) ≤ 1048576 := by simp; omega
      have hT := tar_spec _ hl2
      have step : ∀ k, spec_l9Draw.l0 (k + 1) x i s s1 s2 = (spec_TariffsOk.f k (x ++ [(⟨r1, r2, r3, r4, r5⟩ : S60)])).bind fun t238 => if t238 = true then spec_l9Draw.l0 k (x ++ [(⟨r1, r2, r3, r4, r5⟩ : S60)]) (i - 1) s a5 b5 else spec_l9Draw.l0 k x (i - 1) s a5 b5 := by
        intro k
        simp only [spec_l9Draw.l0]
        rw [if_pos c]
        simp only [e1, e2, e3, e4, e5, Option.bind_some, List.nil_append, ei, List.length_nil, List.length_cons]
        rw [if_pos (by omega), if_pos (by omega)]
        simp only [if_pos (show x.length + (0 + 1) < 3518437208883 by omega)]
      cases hb : (tarOk [] (x ++ [(⟨r1, r2, r3, r4, r5⟩ : S60)]) && decide ((x ++ [(⟨r1, r2, r3, r4, r5⟩ : S60)]).length ≤ 40)) with
      | true =>
        rw [hb] at hT
        obtain ⟨R, t1, t2, hR, q0, q1⟩ := ih (x ++ [(⟨r1, r2, r3, r4, r5⟩ : S60)]) (i - 1) a5 b5 (by omega) (by simp; omega) p5
        refine ⟨R, t1, t2, Ev.step step (Ev.bind hT ?_), q0, by simp at q1; omega⟩
        simp only [if_true]
        exact hR
      | false =>
        rw [hb] at hT
        obtain ⟨R, t1, t2, hR, q0, q1⟩ := ih x (i - 1) a5 b5 (by omega) (by omega) p5
        refine ⟨R, t1, t2, Ev.step step (Ev.bind hT ?_), q0, by omega⟩
        simp only [Bool.false_eq_true, if_false]
        exact hR
    · refine ⟨x, s1, s2, Ev.step (f := fun _ => some (x, s1, s2)) (fun k => ?_) (Ev.now _), h0, by omega⟩
      simp only [spec_l9Draw.l0]
      rw [if_neg c]
theorem l9_draw (s : List Int) (hs : (s.length : Int) ≤ 1048576) (s1 s2 : Int) (h0 : 0 ≤ s1) : ∃ R t1 t2, Ev (fun k => spec_l9Draw.f k s s1 s2) (R, t1, t2) ∧ 0 ≤ t1 ∧ (R.length : Int) ≤ 7 := by
  obtain ⟨r1, a1, b1, e1, p1, hr, _⟩ := below_ok s s1 s2 7 hs h0
  have hr := hr (by omega)
  obtain ⟨R, t1, t2, hR, q0, q1⟩ := l9_loop s hs 7 [] r1 a1 b1 (by omega) (by simp) p1
  refine ⟨R, t1, t2, Ev.congr (fun k => ?_) hR, q0, by simpa using q1⟩
  unfold spec_l9Draw.f
  simp only [e1, Option.bind_some]
theorem l9_any (s : List Int) (hs : (s.length : Int) ≤ 1048576) (s1 s2 : Int) (h0 : 0 ≤ s1) : ∃ R t1 t2, Ev (fun k => spec_l9DrawAny.f k s s1 s2) (R, t1, t2) ∧ 0 ≤ t1 ∧ (R.length : Int) ≤ 7 := by
  obtain ⟨R, a1, b1, hR, p1, hl⟩ := l9_draw s hs s1 s2 h0
  have J : ∀ (b : Bool) (u1 u2 : Int), 0 ≤ u1 → (b = false → 0 < (R.length : Int)) → ∃ R' t1 t2, Ev (fun k => spec_l9DrawAny.j0 k R b s u1 u2) (R', t1, t2) ∧ 0 ≤ t1 ∧ (R'.length : Int) ≤ 7 := by
    intro b u1 u2 h1 hb
    cases b with
    | true => exact ⟨R, u1, u2, Ev.step (f := fun _ => some (R, u1, u2)) (fun k => by simp only [spec_l9DrawAny.j0, if_true]) (Ev.now _), h1, hl⟩
    | false =>
      have hpos := hb rfl
      obtain ⟨r2, a2, b2, e2, p2, hr2, _⟩ := below_ok s u1 u2 R.length hs h1
      have hr2 := hr2 hpos
      obtain ⟨r3, a3, b3, e3, p3, hr3, _⟩ := below_ok s a2 b2 5 hs p2
      obtain ⟨v1, c1, d1, f1, g1, _⟩ := pick_ok s a3 b3 [-1, 99, 100] hs p3 (by decide)
      obtain ⟨v2, c2, d2, f2, g2, _⟩ := pick_ok s a3 b3 [-1, 86400, 0] hs p3 (by decide)
      obtain ⟨v3, c3, d3, f3, g3, _⟩ := pick_ok s a3 b3 [0, 10000, 10001] hs p3 (by decide)
      obtain ⟨v4, c4, d4, f4, g4, _⟩ := pick_ok s a3 b3 [-1, 100000, 100001] hs p3 (by decide)
      have F : ∀ (R' : List S60) (t1 t2 : Int), (∀ k, spec_l9DrawAny.j0 (k + 1) R false s u1 u2 = some (R', t1, t2)) → 0 ≤ t1 → (R'.length : Int) ≤ 7 → ∃ R' t1 t2, Ev (fun k => spec_l9DrawAny.j0 k R false s u1 u2) (R', t1, t2) ∧ 0 ≤ t1 ∧ (R'.length : Int) ≤ 7 :=
        fun R' t1 t2 h q0 q1 => ⟨R', t1, t2, Ev.step (f := fun _ => some (R', t1, t2)) h (Ev.now _), q0, q1⟩
      by_cases k0 : r3 = 0
      · refine F _ c1 d1 (fun k => by simp only [spec_l9DrawAny.j0, Bool.false_eq_true, if_false, e2, e3, f1, Option.bind_some, if_pos hr2.1, if_pos hr2.2, if_pos k0]; rfl) g1 (by simpa using hl)
      · by_cases k1 : r3 = 1
        · refine F _ c2 d2 (fun k => by simp only [spec_l9DrawAny.j0, Bool.false_eq_true, if_false, e2, e3, f2, Option.bind_some, if_pos hr2.1, if_pos hr2.2, if_neg k0, if_pos k1]; rfl) g2 (by simpa using hl)
        · by_cases k2 : r3 = 2
          · refine F _ c3 d3 (fun k => by simp only [spec_l9DrawAny.j0, Bool.false_eq_true, if_false, e2, e3, f3, Option.bind_some, if_pos hr2.1, if_pos hr2.2, if_neg k0, if_neg k1, if_pos k2]; rfl) g3 (by simpa using hl)
          · by_cases k3 : r3 = 3
            · refine F _ c4 d4 (fun k => by simp only [spec_l9DrawAny.j0, Bool.false_eq_true, if_false, e2, e3, f4, Option.bind_some, if_pos hr2.1, if_pos hr2.2, if_neg k0, if_neg k1, if_neg k2, if_pos k3]; rfl) g4 (by simpa using hl)
            · by_cases k4 : r3 = 4
              · refine F _ c4 d4 (fun k => by simp only [spec_l9DrawAny.j0, Bool.false_eq_true, if_false, e2, e3, f4, Option.bind_some, if_pos hr2.1, if_pos hr2.2, if_neg k0, if_neg k1, if_neg k2, if_neg k3, if_pos k4]; rfl) g4 (by simpa using hl)
              · refine F _ a3 b3 (fun k => by simp only [spec_l9DrawAny.j0, Bool.false_eq_true, if_false, e2, e3, Option.bind_some, if_pos hr2.1, if_pos hr2.2, if_neg k0, if_neg k1, if_neg k2, if_neg k3, if_neg k4]) p3 hl
  by_cases c : (R.length : Int) = 0
  · obtain ⟨R', t1, t2, h, q0, q1⟩ := J true a1 b1 p1 (by simp)
    refine ⟨R', t1, t2, Ev.congr (f := fun k => (spec_l9Draw.f k s s1 s2).bind fun bt245 => (if (bt245.1.length : Int) = 0 then (spec_l9DrawAny.j0 k bt245.1 true s bt245.2.1 bt245.2.2) else ((spec_l1Once.f s bt245.2.1 bt245.2.2 15).bind fun bt250 => (spec_l9DrawAny.j0 k bt245.1 (!bt250.1) s bt250.2.1 bt250.2.2)))) (fun k => rfl) (Ev.bind hR ?_), q0, q1⟩
    simp only [if_pos c]
    exact h
  · obtain ⟨r, u1, u2, e, hu⟩ := once_ok s a1 b1 15 hs p1
    obtain ⟨R', t1, t2, h, q0, q1⟩ := J (!r) u1 u2 hu (fun _ => by omega)
    refine ⟨R', t1, t2, Ev.congr (f := fun k => (spec_l9Draw.f k s s1 s2).bind fun bt245 => (if (bt245.1.length : Int) = 0 then (spec_l9DrawAny.j0 k bt245.1 true s bt245.2.1 bt245.2.2) else ((spec_l1Once.f s bt245.2.1 bt245.2.2 15).bind fun bt250 => (spec_l9DrawAny.j0 k bt245.1 (!bt250.1) s bt250.2.1 bt250.2.2)))) (fun k => rfl) (Ev.bind hR ?_), q0, q1⟩
    simp only [if_neg c, e, Option.bind_some]
    exact h
theorem l9_begin (s : List Int) (hs : (s.length : Int) ≤ 1048576) (s1 s2 : Int) (h0 : 0 ≤ s1) : ∃ r t1 t2, Ev (fun k => spec_l9DrawBegin.f k s s1 s2) (r, t1, t2) ∧ 0 ≤ t1 := by
  obtain ⟨r1, a1, b1, e1, p1, _⟩ := below_ok s s1 s2 12 hs h0
  obtain ⟨v1, c1, d1, f1, g1, _⟩ := pick_ok s a1 b1 [-1, 0, 1000000000, 1000000001, 999999950] hs p1 (by decide)
  obtain ⟨v2, c2, d2, f2, g2, _⟩ := pick_ok s a1 b1 [86390, 28700, 64790, 259200] hs p1 (by decide)
  obtain ⟨v3, c3, d3, f3, g3, _⟩ := below_ok s c2 d2 20 hs g2
  obtain ⟨v4, c4, d4, f4, g4, _⟩ := below_ok s a1 b1 90000 hs p1
  have J : ∀ b : Bool, ∃ r t1 t2, Ev (fun k => spec_l9DrawBegin.j0 k b s a1 b1) (r, t1, t2) ∧ 0 ≤ t1 := by
    intro b
    cases b with
    | true => exact ⟨_, c3, d3, Ev.step (f := fun _ => some (wrap64 (v2 + v3), c3, d3)) (fun k => by simp only [spec_l9DrawBegin.j0, if_true, f2, f3, Option.bind_some]) (Ev.now _), g3⟩
    | false => exact ⟨_, c4, d4, Ev.step (f := fun _ => some (v4, c4, d4)) (fun k => by simp only [spec_l9DrawBegin.j0, Bool.false_eq_true, if_false, f4, Option.bind_some]) (Ev.now _), g4⟩
  by_cases k0 : r1 = 0
  · exact ⟨v1, c1, d1, Ev.congr (f := fun _ => some (v1, c1, d1)) (fun k => by simp only [spec_l9DrawBegin.f, e1, f1, Option.bind_some, if_pos k0]) (Ev.now _), g1⟩
  · by_cases k1 : r1 = 1
    · obtain ⟨r, t1, t2, h, q⟩ := J (r1 == 1)
      exact ⟨r, t1, t2, Ev.congr (fun k => by simp only [spec_l9DrawBegin.f, e1, Option.bind_some, if_neg k0, if_pos k1]) h, q⟩
    · by_cases k2 : r1 = 2
      · obtain ⟨r, t1, t2, h, q⟩ := J (r1 == 2)
        exact ⟨r, t1, t2, Ev.congr (fun k => by simp only [spec_l9DrawBegin.f, e1, Option.bind_some, if_neg k0, if_neg k1, if_pos k2]) h, q⟩
      · obtain ⟨r, t1, t2, h, q⟩ := J (r1 == 3)
        exact ⟨r, t1, t2, Ev.congr (fun k => by simp only [spec_l9DrawBegin.f, e1, Option.bind_some, if_neg k0, if_neg k1, if_neg k2]) h, q⟩

theorem rate_draw (s : List Int) (hs : (s.length : Int) ≤ 1048576) : ∃ R z a e, Ev (fun k => spec_DrawRate.f k s) (R, z, a, e) ∧ (R.length : Int) ≤ 7 := by
  obtain ⟨h, hN⟩ := new_ok s hs
  obtain ⟨R, c1, d1, hR, g1, hl⟩ := l9_any s hs 0 h (by omega)
  obtain ⟨a, c2, d2, hA, g2⟩ := l9_begin s hs c1 d1 g1
  obtain ⟨n, c3, d3, e3, g3, _⟩ := below_ok s c2 d2 900 hs g2
  obtain ⟨b, c4, d4, e4, g4⟩ := once_ok s c3 d3 25 hs g3
  obtain ⟨p, c5, d5, e5, g5, _⟩ := pick_ok s c4 d4 [-1, 0, 86400, 86401] hs g4 (by decide)
  obtain ⟨z1, c6, d6, e6, g6, _⟩ := below_ok s c5 d5 3 hs g5
  obtain ⟨z2, c7, d7, e7, g7, _⟩ := below_ok s c4 d4 3 hs g4
  cases b with
  | true =>
    refine ⟨R, z1, a, wrap64 (a + p), Ev.congr (fun k => by unfold spec_DrawRate.f; rfl) (Ev.bind hN (Ev.bind hR (Ev.bind hA ?_))), hl⟩
    simp only [e3, e4, e5, e6, Option.bind_some, if_true]
    exact Ev.now _
  | false =>
    refine ⟨R, z2, a, wrap64 (a + n), Ev.congr (fun k => by unfold spec_DrawRate.f; rfl) (Ev.bind hN (Ev.bind hR (Ev.bind hA ?_))), hl⟩
    simp only [e3, e4, e7, Option.bind_some, Bool.false_eq_true, if_false]
    exact Ev.now _
theorem rp_loop (s : List Int) (hs : (s.length : Int) ≤ 2000000) (l : List S60) (z a e : Int) (d : Nat) : ∀ (x : List Int) (t i s1 s2 : Int), i ≤ d → (x.length : Int) + d ≤ 1000 → 0 ≤ s1 →
    ∃ m, Ev (fun k => spec_DrawRateParts.l0 k l z a e x t i s s1 s2) (l, z, a, e, m) ∧ (m.length : Int) ≤ x.length + d := by
  induction d with
  | zero =>
    intro x t i s1 s2 hi hx h0
    refine ⟨x, Ev.step (f := fun _ => some (l, z, a, e, x)) (fun k => ?_) (Ev.now _), by omega⟩
    simp only [spec_DrawRateParts.l0]
    rw [if_neg (by omega)]
  | succ d ih =>
    intro x t i s1 s2 hi hx h0
    by_cases c : i > 0
    · have ei : wrap64 (i - 1) = i - 1 := w64 (by omega)
      obtain ⟨r1, a1, b1, e1, p1, _⟩ := below_ok2 s s1 s2 200 hs h0
      obtain ⟨m, hm, hl⟩ := ih (x ++ [wrap64 (t + r1)]) (wrap64 ((wrap64 (t + r1)) + 1)) (i - 1) a1 b1 (by omega) (by simp; omega) p1
      refine ⟨m, Ev.step (fun k => ?_) hm, by simp at hl; omega⟩
      simp only [spec_DrawRateParts.l0]
      rw [if_pos c]
      simp only [e1, Option.bind_some, ei]
      rw [if_pos (by omega)]
    · refine ⟨x, Ev.step (f := fun _ => some (l, z, a, e, x)) (fun k => ?_) (Ev.now _), by omega⟩
      simp only [spec_DrawRateParts.l0]
      rw [if_neg c]
theorem parts_draw (s : List Int) (hs : (s.length : Int) ≤ 1048576) : ∃ R z a e m, Ev (fun k => spec_DrawRateParts.f k s) (R, z, a, e, m) ∧ (R.length : Int) ≤ 7 ∧ (m.length : Int) ≤ 1000 := by
  obtain ⟨R, z, a, e, hR, hl⟩ := rate_draw s hs
  have hs2 : ((s ++ [7]).length : Int) ≤ 2000000 := by simp; omega
  obtain ⟨h, hN⟩ := new_ok2 (s ++ [7]) hs2
  obtain ⟨n, c1, d1, e1, g1, hn, _⟩ := below_ok2 (s ++ [7]) 0 h 5 hs2 (by omega)
  obtain ⟨m, hm, hml⟩ := rp_loop (s ++ [7]) hs2 R z a e 5 [] a n c1 d1 (by have := hn (by omega); omega) (by simp) g1
  refine ⟨R, z, a, e, m, Ev.congr (fun k => by unfold spec_DrawRateParts.f; rfl) (Ev.bind hR ?_), hl, by simp at hml; omega⟩
  simp only [Option.bind_some, List.nil_append, List.length_nil]
  simp only [if_pos (show 0 + s.length < 140737488355328 by omega), if_pos (show s.length < 140737488355328 by omega), Option.bind_some]
  refine Ev.bind hN ?_
  simp only [e1, Option.bind_some]
  exact hm
theorem count_ge (l : List S60) (hv : tarV l = true) (zone a e : Int) (he : e ≤ a + 100000) (hz : 0 ≤ atV l zone 0) : ∀ (D : Nat) (c t n : Int), Fair a c t → 0 ≤ n → n ≤ t - a → n ≤ (rateFrom l zone e D t n c).1
  | 0, c, t, n, hf, h0, h1 => by unfold rateFrom; exact Int.le_refl _
  | D + 1, c, t, n, hf, h0, h1 => by
    have hq := hf
    unfold Fair at hq
    by_cases ct : t < e
    · obtain ⟨e1', f1, s1, p1⟩ := fair_step hv zone hz hf (by omega)
      unfold rateFrom
      rw [if_pos ct, e1', w64 (x := n + 1) (by omega)]
      have := count_ge l hv zone a e he hz D _ _ (n + 1) f1 (by omega) (by omega)
      omega
    · unfold rateFrom
      rw [if_neg ct]
      exact Int.le_refl _
theorem count_mono (l : List S60) (hv : tarV l = true) (zone a e1 e2 : Int) (he : e1 ≤ e2) (he2 : e2 ≤ a + 100000) (hz : 0 ≤ atV l zone 0) : ∀ (D1 D2 : Nat) (c t n : Int), Fair a c t → 0 ≤ n → n ≤ t - a → e2 - t ≤ D2 →
    (rateFrom l zone e1 D1 t n c).1 ≤ (rateFrom l zone e2 D2 t n c).1
  | 0, D2, c, t, n, hf, h0, h1, hd => by
    have := count_ge l hv zone a e2 he2 hz D2 c t n hf h0 h1
    have e0 : (rateFrom l zone e1 0 t n c).1 = n := by unfold rateFrom; rfl
    rw [e0]
    exact this
  | D1 + 1, D2, c, t, n, hf, h0, h1, hd => by
    have hq := hf
    unfold Fair at hq
    by_cases ct : t < e1
    · cases D2 with
      | zero => omega
      | succ D2 =>
        obtain ⟨e1', f1, s1, p1⟩ := fair_step hv zone hz hf (by omega)
        unfold rateFrom
        rw [if_pos ct, if_pos (by omega), e1', w64 (x := n + 1) (by omega)]
        exact count_mono l hv zone a e1 e2 he he2 hz D1 D2 _ _ _ f1 (by omega) (by omega) (by omega)
    · have := count_ge l hv zone a e2 he2 hz D2 c t n hf h0 h1
      have e : (rateFrom l zone e1 (D1 + 1) t n c).1 = n := by unfold rateFrom; rw [if_neg ct]
      rw [e]
      exact this

theorem rate_three (l : List S60) (zone a e : Int) (h : (rateV l zone a e).2.2 = true) : tarV l = true ∧ tickV a = true ∧ 0 ≤ atV l zone a ∧ ticksV a e = true ∧
    rateV l zone a e = ((rateFrom l zone e (e - a).toNat a 0 (rd_T60 l (atV l zone a)).f4).1, (rateFrom l zone e (e - a).toNat a 0 (rd_T60 l (atV l zone a)).f4).2, true) := by
  unfold rateV at h ⊢
  split at h
  · rename_i c
    rw [if_pos c]
    simp only [Bool.and_eq_true, decide_eq_true_eq] at c
    exact ⟨c.1.1.1, c.1.1.2, c.1.2, c.2, rfl⟩
  · cases h
theorem longer (l : List S60) (zone a e b : Int) (hb0 : 0 ≤ b) (hb1 : b ≤ 255) (h1 : (rateV l zone a e).2.2 = true) (h2 : (rateV l zone a (wrap64 (e + b))).2.2 = true) :
    (rateV l zone a e).1 ≤ (rateV l zone a (wrap64 (e + b))).1 ∧ (rateV l zone a e).2.1 ≤ (rateV l zone a (wrap64 (e + b))).2.1 := by
  obtain ⟨hv, ha, hz, ht, e1⟩ := rate_three l zone a e h1
  obtain ⟨_, _, _, ht2, e2⟩ := rate_three l zone a _ h2
  have t1 := ht
  have t2 := ht2
  unfold ticksV tickV at t1 t2
  simp only [Bool.and_eq_true, decide_eq_true_eq] at t1 t2
  have ew : wrap64 (e + b) = e + b := w64 (by omega)
  rw [e1, e2]
  rw [ew] at t2 ⊢
  have hz0 := atV_pos l zone a 0 hz
  have h4 := (tarV_price hv (atV l zone a) hz (atV_lt l zone a).2).2
  have hfair : Fair a (rd_T60 l (atV l zone a)).f4 a := by unfold Fair; omega
  exact ⟨count_mono l hv zone a e (e + b) (by omega) (by omega) hz0 _ _ _ _ 0 hfair (by omega) (by omega) (by omega), rate_mono l hv zone a e (e + b) (by omega) (by omega) hz0 _ _ _ _ 0 0 hfair (by omega)⟩
theorem FnLonger : SFnLonger.Pure := by
  intro s hs0
  apply Ev.rounds
  by_cases hb : (s.length : Int) > 1048576
  · refine Ev.congr (f := fun _ => some true) (fun k => ?_) (Ev.now _)
    simp [laws_FnLonger.f, big_eq, hb]
  have hs : (s.length : Int) ≤ 1048576 := by omega
  have hbytes : ∀ x ∈ s, 0 ≤ x ∧ x ≤ 255 := fun x hx => u8_range (hs0.1 x hx)
  obtain ⟨b, hat, hb0, hb1⟩ := at_ok s 0 hs hbytes (by omega) (by omega)
  obtain ⟨l, zone, a, e, m, hD, hl7, hm7⟩ := parts_draw s hs
  have hl : (l.length : Int) ≤ 1048576 := by omega
  have hm : (m.length : Int) ≤ 1048576 := by omega
  have hT := rate_impl [(⟨0, 0, 10, 3, 1⟩ : S60)] (by simp) 0 5 26
  rw [show rateV [(⟨0, 0, 10, 3, 1⟩ : S60)] 0 5 26 = (3, 10, true) by decide +kernel] at hT
  have J0 : Ev (fun k => laws_FnLonger.j0 k s l zone a e (rateV l zone a e).2.2 false (rateV l zone a e).1 (rateV l zone a e).2.1) true := by
    refine Ev.step (f := fun k => ((impl_Rate.f k l zone a (wrap64 (e + b))).bind fun bt367 => ((spec_Rate.f k l zone a (wrap64 (e + b))).bind fun bt371 => (if (bt367.2.2 != bt371.2.2) = true then (some false) else ((impl_Rate.f k (([(⟨0, 0, 10, 3, 1⟩ : S60)] : List (S60))) 0 5 26).bind fun bt378 => (if bt378.2.2 = true then (if (bt378.1 == 3 && (bt378.2.1 == 10)) = true then (if (rateV l zone a e).2.2 = true then (if bt367.2.2 = true then (if bt367.2.1 ≥ (rateV l zone a e).2.1 then (some (decide (bt367.1 ≥ (rateV l zone a e).1))) else (some false)) else (some true)) else (some true)) else (some false)) else (some false))))))) (fun k => ?_) (Ev.bind (rate_impl l hl zone a (wrap64 (e + b))) (Ev.bind (rate_spec l hl zone a (wrap64 (e + b))) ?_))
    · simp only [laws_FnLonger.j0, Bool.false_eq_true, if_false, hat, Option.bind_some]
    · simp only [bne_self_eq_false, Bool.false_eq_true, if_false]
      refine Ev.bind hT ?_
      simp only [if_true, beq_self_eq_true, Bool.and_self]
      by_cases q1 : (rateV l zone a e).2.2 = true
      · rw [if_pos q1]
        by_cases q2 : (rateV l zone a (wrap64 (e + b))).2.2 = true
        · obtain ⟨m1, m2⟩ := longer l zone a e b hb0 hb1 q1 q2
          rw [if_pos q2, if_pos m2, decide_eq_true m1]
          exact Ev.now _
        · rw [if_neg q2]
          exact Ev.now _
      · rw [if_neg q1]
        exact Ev.now _
  refine Ev.congr (fun k => by unfold laws_FnLonger.f; simp only [big_eq, decide_eq_false hb, Option.bind_some, Bool.false_eq_true, if_false]; rfl) (Ev.bind hD (Ev.bind (rate_impl l hl zone a e) (Ev.bind (rate_spec l hl zone a e) ?_)))
  · simp only [bne_self_eq_false, Bool.false_eq_true, if_false]
    refine Ev.bind (parts_impl_loop l hl zone a e m hm m.length 0 (by omega) (by omega)) (Ev.bind (parts_spec_loop l hl zone a e m hm m.length 0 (by omega) (by omega)) ?_)
    simp only [bne_self_eq_false, Bool.false_eq_true, if_false]
    by_cases q : (partsV l zone a e m (cutsFrom m a e m.length 0)).2.2 = true
    · simp only [if_pos q]
      have ep : partsV l zone a e m (cutsFrom m a e m.length 0) = rateV l zone a e := by
        unfold partsV at q ⊢
        split at q
        · rename_i c1
          rw [if_pos c1]
          split at q
          · cases q
          · rename_i c2
            rw [if_neg c2]
        · cases q
      rw [ep]
      simp only [beq_self_eq_true, Bool.not_true, Bool.or_self]
      exact J0
    · simp only [if_neg q]
      exact J0

end Go.Proofs.Ytodehmbgcncnhaa.Pure
