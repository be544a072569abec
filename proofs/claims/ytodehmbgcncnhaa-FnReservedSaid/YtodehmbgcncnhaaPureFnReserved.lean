/- What is reserved at a drawn call holds: the rate of what was bought is what was put aside, one tick more is too dear or past the end, and any call no longer than bought settles within it. No condition. -/
import Derived.Test.YtodehmbgcncnhaaSFnReserved
set_option linter.unusedVariables false
set_option linter.unusedSimpArgs false
namespace Go.Proofs.Ytodehmbgcncnhaa.Pure
open Go.RowKit Go.Proofs.Ytodehmbgcncnhaa.PFnReserved Go.Proofs.Ytodehmbgcncnhaa.SFnReserved Go.Proofs.YtodehmbgcncnhaaW.PrintWords Go.Proofs.YtodehmbgcncnhaaW.PrintLast Go.Proofs.YtodehmbgcncnhaaW.PrintMore
theorem w64 {x : Int} (h : -9000000000000000000 ≤ x ∧ x ≤ 9000000000000000000) : wrap64 x = x := by unfold wrap64; omega
theorem rd_at (l : List Int) (i : Int) (h0 : 0 ≤ i) (h1 : i < l.length) : l[i.toNat]? = some (rd l i) := by
  simp [rd, List.getD_eq_getElem?_getD, List.getElem?_eq_getElem (show i.toNat < l.length by omega)]

theorem gen_to {α β : Type} (l : List α) (hl : (l.length : Int) ≤ 1048576) (F : Nat → List β → Int → Option (List β)) (g : Int → β)
    (hF : ∀ k m i, 0 ≤ i → i < (l.length : Int) → i < (m.length : Int) → F (k + 1) m i = F k (m.set i.toNat (g i)) (wrap64 (i + 1))) (hE : ∀ k m i, ¬ i < (l.length : Int) → F (k + 1) m i = some m)
    (G : α → β) (hg : ∀ (i : Nat) (h : i < l.length), g i = G l[i]) (d : Nat) : ∀ (i : Int) (m : List β), 0 ≤ i → i ≤ l.length → (l.length : Int) - i = d → m.length = l.length →
    (∀ j : Nat, (j : Int) < i → m[j]? = (l.map G)[j]?) → Ev (fun k => F k m i) (l.map G) := by
  induction d with
  | zero =>
    intro i m h0 h1 hd hm hp
    refine Ev.step (f := fun _ => some (l.map G)) (fun k => ?_) (Ev.now _)
    rw [hE k m i (by omega)]
    congr 1
    apply List.ext_getElem?
    intro j
    by_cases hj : j < l.length
    · exact hp j (by omega)
    · rw [List.getElem?_eq_none (by omega), List.getElem?_eq_none (by simp; omega)]
  | succ d ih =>
    intro i m h0 h1 hd hm hp
    have ei : wrap64 (i + 1) = i + 1 := w64 (by omega)
    refine Ev.step (fun k => ?_) (ih (i + 1) (m.set i.toNat (g i)) (by omega) (by omega) (by omega) (by simpa using hm) ?_)
    · rw [hF k m i h0 (by omega) (by omega), ei]
    · intro j hj
      by_cases e : j = i.toNat
      · subst e
        rw [List.getElem?_set_self (by omega), List.getElem?_map, List.getElem?_eq_getElem (show i.toNat < l.length by omega)]
        have := hg i.toNat (by omega)
        rw [Int.toNat_of_nonneg h0] at this
        rw [this]
        rfl
      · rw [List.getElem?_set_ne (by omega)]
        exact hp j (by omega)
theorem gen_eq {n : Nat} (hl : (n : Int) ≤ 1048576) (F : Nat → Int → Option Bool) (hF : ∀ k i, 0 ≤ i → i < (n : Int) → F (k + 1) i = F k (wrap64 (i + 1))) (hE : ∀ k i, ¬ i < (n : Int) → F (k + 1) i = some true)
    (d : Nat) : ∀ (i : Int), 0 ≤ i → i ≤ n → (n : Int) - i = d → Ev (fun k => F k i) true := by
  induction d with
  | zero =>
    intro i h0 h1 hd
    exact Ev.step (f := fun _ => some true) (fun k => hE k i (by omega)) (Ev.now _)
  | succ d ih =>
    intro i h0 h1 hd
    have ei : wrap64 (i + 1) = i + 1 := w64 (by omega)
    refine Ev.step (fun k => ?_) (ih (i + 1) (by omega) (by omega) (by omega))
    rw [hF k i h0 (by omega), ei]
theorem getD_at {α : Type} (l : List α) (z : α) (i : Nat) (h : i < l.length) : l.getD i z = l[i] := by simp [List.getD_eq_getElem?_getD, h]


theorem in_spec (a b c : Int) : spec_l1In.f a b c = some (decide (b ≤ a) && decide (a ≤ c)) := by
  unfold spec_l1In.f
  by_cases q : a ≥ b
  · rw [if_pos q]; simp [q]
  · rw [if_neg q]; simp [q]
def keyOf' (t : S60) : Int × Int := (t.f0, t.f1)
theorem tar_inner (l : List S60) (hl : (l.length : Int) ≤ 1048576) (i : Int) (h0 : 0 ≤ i) (h1 : i < l.length) (a b c e g : Int) (r : Bool)
    (hnext : (a, b) ∉ (l.take i.toNat).map keyOf' → Ev (fun k => spec_TariffsOk.l0 k l (wrap64 (i + 1))) r) (hin : (a, b) ∈ (l.take i.toNat).map keyOf' → r = false) (d : Nat) :
    ∀ j : Int, 0 ≤ j → j ≤ i → i - j = d → (∀ m : Nat, (m : Int) < j → ∀ h : m < l.length, keyOf' l[m] ≠ (a, b)) → Ev (fun k => spec_TariffsOk.l1 k l i j a b c e g) r := by
  induction d with
  | zero =>
    intro j g0 g1 hd hp
    refine Ev.step (fun k => ?_) (hnext ?_)
    · simp only [spec_TariffsOk.l1]
      rw [if_neg (by omega)]
    · intro hm
      obtain ⟨x, hx, he⟩ := List.mem_map.1 hm
      obtain ⟨m, hm2⟩ := List.mem_iff_getElem?.1 hx
      rw [List.getElem?_take] at hm2
      split at hm2
      · rename_i hlt
        have hml : m < l.length := by omega
        rw [List.getElem?_eq_getElem hml] at hm2
        cases hm2
        exact hp m (by omega) hml he
      · cases hm2
  | succ d ih =>
    intro j g0 g1 hd hp
    have ei : wrap64 (j + 1) = j + 1 := w64 (by omega)
    have hj : j.toNat < l.length := by omega
    have hrd : rd_T60 l j = l[j.toNat] := getD_at l z60 j.toNat hj
    by_cases c1 : keyOf' l[j.toNat] = (a, b)
    · refine Ev.step (f := fun _ => some r) (fun k => ?_) (Ev.now _)
      have hr : r = false := by
        apply hin
        rw [← c1]
        refine List.mem_map_of_mem (List.mem_iff_getElem?.2 ⟨j.toNat, ?_⟩)
        rw [List.getElem?_take, if_pos (by omega), List.getElem?_eq_getElem hj]
      simp only [keyOf', Prod.mk.injEq] at c1
      simp only [spec_TariffsOk.l1, hrd]
      rw [if_pos (by omega), if_pos g0, if_pos (by omega), if_pos c1.1, if_pos c1.2, hr]
    · refine Ev.step (fun k => ?_) (ih (j + 1) (by omega) (by omega) (by omega) ?_)
      · simp only [spec_TariffsOk.l1, hrd]
        rw [if_pos (by omega), if_pos g0, if_pos (by omega), ei]
        simp only [keyOf', Prod.mk.injEq] at c1
        by_cases c2 : (l[j.toNat]).f0 = a
        · rw [if_pos c2, if_neg (fun q => c1 ⟨c2, q⟩)]
        · rw [if_neg c2]
      · intro m hm hml
        by_cases e : m = j.toNat
        · subst e; exact c1
        · exact hp m (by omega) hml
theorem tar_outer (l : List S60) (hl : (l.length : Int) ≤ 1048576) (d : Nat) : ∀ i : Int, 0 ≤ i → i ≤ l.length → (l.length : Int) - i = d →
    Ev (fun k => spec_TariffsOk.l0 k l i) (tarOk ((l.take i.toNat).map keyOf') (l.drop i.toNat) && decide (l.length ≤ 40)) := by
  induction d with
  | zero =>
    intro i h0 h1 hd
    have e : l.drop i.toNat = [] := List.drop_eq_nil_iff.2 (by omega)
    rw [e, tarOk]
    refine Ev.step (f := fun _ => some (true && decide (l.length ≤ 40))) (fun k => ?_) (Ev.now _)
    simp only [spec_TariffsOk.l0]
    rw [if_neg (by omega)]
    congr 1
    simp
    try omega
  | succ d ih =>
    intro i h0 h1 hd
    have ei : wrap64 (i + 1) = i + 1 := w64 (by omega)
    have hi : i.toNat < l.length := by omega
    have hrd : rd_T60 l i = l[i.toNat] := getD_at l z60 i.toNat hi
    have ih' := ih (i + 1) (by omega) (by omega) (by omega)
    rw [← ei] at ih'
    have e1 : (wrap64 (i + 1)).toNat = i.toNat + 1 := by omega
    rw [e1, List.take_succ_eq_append_getElem hi, List.map_append, List.map_singleton] at ih'
    rw [List.drop_eq_getElem_cons hi, tarOk]
    generalize l[i.toNat] = t at *
    have hone : ∀ x : Bool × Bool × Bool × Bool × Bool, (x.1 && x.2.1 && x.2.2.1 && x.2.2.2.1 && x.2.2.2.2) = true ↔ x = (true, true, true, true, true) := by
      rintro ⟨x1, x2, x3, x4, x5⟩
      cases x1 <;> cases x2 <;> cases x3 <;> cases x4 <;> cases x5 <;> simp
    by_cases ht : tarOne t = true
    · simp only [ht, true_and]
      have IN : Ev (fun k => spec_TariffsOk.l1 k l i 0 t.f0 t.f1 t.f2 t.f3 t.f4) ((if (t.f0, t.f1) ∉ (l.take i.toNat).map keyOf' then tarOk ((l.take i.toNat).map keyOf' ++ [(t.f0, t.f1)]) (l.drop (i.toNat + 1)) else false) && decide (l.length ≤ 40)) := by
        refine tar_inner l hl i h0 (by omega) _ _ _ _ _ _ (fun hn => ?_) (fun hn => ?_) i.toNat 0 (by omega) (by omega) (by omega) (fun m hm => by omega)
        · rw [if_pos hn]
          exact ih'
        · rw [if_neg (fun q => q hn)]
          rfl
      refine Ev.step (f := fun k => spec_TariffsOk.j1 k l i false t.f0 t.f1 t.f2 t.f3 t.f4) (fun k => ?_) (Ev.step (fun k => ?_) IN)
      · simp only [spec_TariffsOk.l0, hrd, in_spec, Option.bind_some]
        rw [if_pos (by omega), if_pos h0]
        unfold tarOne at ht
        simp only [Bool.and_eq_true, decide_eq_true_eq] at ht
        obtain ⟨⟨⟨⟨⟨⟨⟨⟨⟨q0, q1⟩, q2⟩, q3⟩, q4⟩, q5⟩, q6⟩, q7⟩, q8⟩, q9⟩ := ht
        simp [q0, q1, q2, q3, q4, q5, q6, q7, q8, q9]
      · simp only [spec_TariffsOk.j1, Bool.false_eq_true, if_false]
    · rw [if_neg (fun q => ht q.1)]
      refine Ev.step (f := fun k => spec_TariffsOk.j1 k l i true t.f0 t.f1 t.f2 t.f3 t.f4) (fun k => ?_) (Ev.step (f := fun _ => some false) (fun k => ?_) (Ev.now _))
      · simp only [spec_TariffsOk.l0, hrd, in_spec, Option.bind_some]
        rw [if_pos (by omega), if_pos h0]
        unfold tarOne at ht
        obtain ⟨R, HR⟩ : ∃ R, R = spec_TariffsOk.j1 k l i true t.f0 t.f1 t.f2 t.f3 t.f4 := ⟨_, rfl⟩
        simp only [← HR]
        have hgo : ∀ q1 q2 q3 q4 q5 : Bool, ¬ (q1 && q2 && q3 && q4 && q5) = true → ∀ f : Bool → Option Bool, f true = R → (if q1 = true then if q2 = true then if q3 = true then if q4 = true then f (!q5) else R else R else R else R) = R := by
          intro q1 q2 q3 q4 q5 hq f hf
          cases q1 <;> cases q2 <;> cases q3 <;> cases q4 <;> cases q5 <;> simp_all
        refine hgo _ _ _ _ _ (fun q => ht ?_) (fun b => spec_TariffsOk.j1 k l i b t.f0 t.f1 t.f2 t.f3 t.f4) HR.symm
        simpa only [Bool.and_assoc] using q
      · simp only [spec_TariffsOk.j1, if_true]
theorem tar_spec (l : List S60) (hl : (l.length : Int) ≤ 1048576) : Ev (fun k => spec_TariffsOk.f k l) (tarOk [] l && decide (l.length ≤ 40)) := by
  have := tar_outer l hl l.length 0 (by omega) (by omega) (by omega)
  refine Ev.congr (fun k => ?_) this
  rfl

def lastOf (l : List S60) (last i : Int) : Int := if last < 0 ∨ (rd_T60 l i).f1 > (rd_T60 l last).f1 then i else last
def bestOk (l : List S60) (tick best i : Int) : Prop := (rd_T60 l i).f1 ≤ tick ∧ (best < 0 ∨ (rd_T60 l i).f1 > (rd_T60 l best).f1)
instance (l : List S60) (tick best i : Int) : Decidable (bestOk l tick best i) := by unfold bestOk; infer_instance
def bestOf (l : List S60) (tick best i : Int) : Int := if bestOk l tick best i then i else best
/-- The tariff in force: 'd' of the list are left, from place i. -/
def atFrom (l : List S60) (zone tick : Int) : Nat → Int → Int → Int → Int
  | 0, _, best, last => if best < 0 then last else best
  | d + 1, i, best, last => if (rd_T60 l i).f0 = zone then atFrom l zone tick d (i + 1) (bestOf l tick best i) (lastOf l last i) else atFrom l zone tick d (i + 1) best last
theorem lastOf_in (l : List S60) (last i : Int) (h0 : 0 ≤ i) (h : -1 ≤ last ∧ last < i) : -1 ≤ lastOf l last i ∧ lastOf l last i < i + 1 := by unfold lastOf; split <;> omega
theorem bestOf_in (l : List S60) (tick best i : Int) (h0 : 0 ≤ i) (h : -1 ≤ best ∧ best < i) : -1 ≤ bestOf l tick best i ∧ bestOf l tick best i < i + 1 := by unfold bestOf; split <;> omega
theorem atFrom_in (l : List S60) (zone tick : Int) : ∀ (d : Nat) (i best last : Int), 0 ≤ i → (-1 ≤ best ∧ best < i) → (-1 ≤ last ∧ last < i) → -1 ≤ atFrom l zone tick d i best last ∧ atFrom l zone tick d i best last < i + d
  | 0, i, best, last, h0, hb, hl => by unfold atFrom; split <;> omega
  | d + 1, i, best, last, h0, hb, hl => by
    unfold atFrom
    split
    · have := atFrom_in l zone tick d (i + 1) (bestOf l tick best i) (lastOf l last i) (by omega) (bestOf_in l tick best i h0 hb) (lastOf_in l last i h0 hl)
      omega
    · have := atFrom_in l zone tick d (i + 1) best last (by omega) (by omega) (by omega)
      omega
theorem specAt_j2 (l : List S60) (k : Nat) (zone tick best last i : Int) (b : Bool) (h0 : 0 ≤ i) (h1 : i < l.length) (hl : -1 ≤ last ∧ last < i) :
    spec_TariffAt.j2 (k + 1) l zone tick best last i b = spec_TariffAt.l0 k l zone tick (if b = true then i else best) (lastOf l last i) (wrap64 (i + 1)) := by
  have hll : last < (l.length : Int) := by omega
  unfold lastOf
  cases b
  · by_cases c : last < 0
    · simp [spec_TariffAt.j2, c]
    · have c0 : 0 ≤ last := by omega
      by_cases c2 : (rd_T60 l i).f1 > (rd_T60 l last).f1 <;> simp [spec_TariffAt.j2, c, c0, h0, h1, hll, c2]
  · by_cases c : last < 0
    · simp [spec_TariffAt.j2, c]
    · have c0 : 0 ≤ last := by omega
      by_cases c2 : (rd_T60 l i).f1 > (rd_T60 l last).f1 <;> simp [spec_TariffAt.j2, c, c0, h0, h1, hll, c2]
theorem specAt_l0 (l : List S60) (k : Nat) (zone tick best last i : Int) (h0 : 0 ≤ i) (h1 : i < l.length) (hb : -1 ≤ best ∧ best < i) (cz : (rd_T60 l i).f0 = zone) :
    spec_TariffAt.l0 (k + 1) l zone tick best last i = spec_TariffAt.j2 k l zone tick best last i (decide (bestOk l tick best i)) := by
  have hbl : best < (l.length : Int) := by omega
  have hd : ∀ b : Bool, (b = true ↔ bestOk l tick best i) → decide (bestOk l tick best i) = b := by intro b hb; rw [Bool.eq_iff_iff, hb]; simp
  simp only [spec_TariffAt.l0]
  rw [if_pos h1, if_pos h0, if_pos cz]
  by_cases c1 : (rd_T60 l i).f1 ≤ tick
  · rw [if_pos c1]
    by_cases c2 : best < 0
    · rw [if_pos c2, hd true (by simp [bestOk, c1, c2])]
    · rw [if_neg c2, if_pos (by omega), if_pos hbl, hd (decide ((rd_T60 l i).f1 > (rd_T60 l best).f1)) (by simp [bestOk, c1, c2])]
  · rw [if_neg c1, hd false (by simp [bestOk, c1])]
theorem specAt_loop (l : List S60) (hl : (l.length : Int) ≤ 1048576) (zone tick : Int) (d : Nat) : ∀ (i best last : Int), 0 ≤ i → (l.length : Int) - i = d → (-1 ≤ best ∧ best < i) → (-1 ≤ last ∧ last < i) →
    Ev (fun k => spec_TariffAt.l0 k l zone tick best last i) (atFrom l zone tick d i best last, decide (atFrom l zone tick d i best last ≥ 0)) := by
  induction d with
  | zero =>
    intro i best last h0 hd hb hla
    unfold atFrom
    refine Ev.step (f := fun _ => some (if best < 0 then last else best, decide ((if best < 0 then last else best) ≥ 0))) (fun k => ?_) (Ev.now _)
    simp only [spec_TariffAt.l0]
    rw [if_neg (by omega)]
    split <;> rfl
  | succ d ih =>
    intro i best last h0 hd hb hla
    have ei : wrap64 (i + 1) = i + 1 := w64 (by omega)
    unfold atFrom
    by_cases cz : (rd_T60 l i).f0 = zone
    · rw [if_pos cz]
      refine Ev.step (fun k => specAt_l0 l k zone tick best last i h0 (by omega) hb cz) (Ev.step (fun k => specAt_j2 l k zone tick best last i _ h0 (by omega) hla) ?_)
      rw [ei]
      have e : (if decide (bestOk l tick best i) = true then i else best) = bestOf l tick best i := by unfold bestOf; simp only [decide_eq_true_eq]
      rw [e]
      exact ih (i + 1) _ _ (by omega) (by omega) (bestOf_in l tick best i h0 hb) (lastOf_in l last i h0 hla)
    · rw [if_neg cz]
      refine Ev.step (fun k => ?_) (ih (i + 1) best last (by omega) (by omega) (by omega) (by omega))
      simp only [spec_TariffAt.l0]
      rw [if_pos (by omega), if_pos h0, if_neg cz, ei]

theorem imAt_j1 (l : List S60) (k : Nat) (zone t best last i : Int) (b : Bool) (h0 : 0 ≤ i) (h1 : i < l.length) (hb : -1 ≤ best ∧ best < i) :
    impl_tariffAt.j1 (k + 1) l zone t best last i l l.length i b (rd_T60 l i).f0 (rd_T60 l i).f1 (rd_T60 l i).f2 (rd_T60 l i).f3 (rd_T60 l i).f4 = impl_tariffAt.l0 k l zone t (bestOf l (Int.tmod t 86400) best i) (if b = true then i else last) l l.length (wrap64 (i + 1)) := by
  have hbl : best < (l.length : Int) := by omega
  unfold bestOf bestOk
  cases b <;> by_cases c1 : (rd_T60 l i).f1 ≤ Int.tmod t 86400 <;> by_cases c2 : best < 0 <;> (try simp [impl_tariffAt.j1, c1, c2]) <;> (have c0 : 0 ≤ best := by omega) <;> by_cases c3 : (rd_T60 l i).f1 > (rd_T60 l best).f1 <;> simp [c0, hbl, c3]
theorem imAt_l0 (l : List S60) (k : Nat) (zone t best last i : Int) (h0 : 0 ≤ i) (h1 : i < l.length) (hla : -1 ≤ last ∧ last < i) (cz : (rd_T60 l i).f0 = zone) :
    impl_tariffAt.l0 (k + 1) l zone t best last l l.length i = impl_tariffAt.j1 k l zone t best last i l l.length i (decide (last < 0 ∨ (rd_T60 l i).f1 > (rd_T60 l last).f1)) (rd_T60 l i).f0 (rd_T60 l i).f1 (rd_T60 l i).f2 (rd_T60 l i).f3 (rd_T60 l i).f4 := by
  have hll : last < (l.length : Int) := by omega
  simp only [impl_tariffAt.l0]
  rw [if_pos h1, if_pos h0, if_pos h1, if_pos cz]
  by_cases c2 : last < 0
  · rw [if_pos c2]; simp [c2]
  · rw [if_neg c2, if_pos (by omega), if_pos hll]; simp [c2]
theorem imAt_loop (l : List S60) (hl : (l.length : Int) ≤ 1048576) (zone t : Int) (d : Nat) : ∀ (i best last : Int), 0 ≤ i → (l.length : Int) - i = d → (-1 ≤ best ∧ best < i) → (-1 ≤ last ∧ last < i) →
    Ev (fun k => impl_tariffAt.l0 k l zone t best last l l.length i) (atFrom l zone (Int.tmod t 86400) d i best last) := by
  induction d with
  | zero =>
    intro i best last h0 hd hb hla
    unfold atFrom
    refine Ev.step (f := fun _ => some (if best < 0 then last else best)) (fun k => ?_) (Ev.now _)
    simp only [impl_tariffAt.l0]
    rw [if_neg (by omega)]
    split <;> rfl
  | succ d ih =>
    intro i best last h0 hd hb hla
    have ei : wrap64 (i + 1) = i + 1 := w64 (by omega)
    unfold atFrom
    by_cases cz : (rd_T60 l i).f0 = zone
    · rw [if_pos cz]
      refine Ev.step (fun k => imAt_l0 l k zone t best last i h0 (by omega) hla cz) (Ev.step (fun k => imAt_j1 l k zone t best last i _ h0 (by omega) hb) ?_)
      rw [ei]
      have e : (if decide (last < 0 ∨ (rd_T60 l i).f1 > (rd_T60 l last).f1) = true then i else last) = lastOf l last i := by unfold lastOf; simp only [decide_eq_true_eq]
      rw [e]
      exact ih (i + 1) _ _ (by omega) (by omega) (bestOf_in l _ best i h0 hb) (lastOf_in l last i h0 hla)
    · rw [if_neg cz]
      refine Ev.step (fun k => ?_) (ih (i + 1) best last (by omega) (by omega) (by omega) (by omega))
      simp only [impl_tariffAt.l0]
      rw [if_pos (by omega), if_pos h0, if_pos (by omega), if_neg cz, ei]

theorem in_impl (a b c : Int) : impl_in.f a b c = some (decide (b ≤ a) && decide (a ≤ c)) := by
  unfold impl_in.f
  by_cases q : a ≥ b
  · rw [if_pos q]; simp [q]
  · rw [if_neg q]; simp [q]
theorem tick_spec (a : Int) : spec_l4Tick.f a = some (decide (0 ≤ a) && decide (a ≤ 1000000000)) := by simp only [spec_l4Tick.f, in_spec, Option.bind_some]
def tarV (l : List S60) : Bool := tarOk [] l && decide (l.length ≤ 40)
def tickV (t : Int) : Bool := decide (0 ≤ t) && decide (t ≤ 1000000000)
def atV (l : List S60) (zone t : Int) : Int := atFrom l zone (Int.tmod t 86400) l.length 0 (-1) (-1)
def tariffAt (l : List S60) (zone t : Int) : Int × Bool := if (tarV l && tickV t) = true then (atV l zone t, decide (atV l zone t ≥ 0)) else (-1, false)
theorem at_spec (l : List S60) (hl : (l.length : Int) ≤ 1048576) (zone t : Int) : Ev (fun k => spec_TariffAt.f k l zone t) (tariffAt l zone t) := by
  have J : ∀ b : Bool, Ev (fun k => spec_TariffAt.j0 k l zone t (!b)) (if b = true then (atV l zone t, decide (atV l zone t ≥ 0)) else (-1, false)) := by
    intro b
    cases b
    · exact Ev.step (f := fun _ => some (-1, false)) (fun k => by simp only [spec_TariffAt.j0, Bool.not_false, if_true]) (Ev.now _)
    · exact Ev.step (fun k => by simp only [spec_TariffAt.j0, Bool.not_true, Bool.false_eq_true, if_false]) (specAt_loop l hl zone _ l.length 0 (-1) (-1) (by omega) (by omega) (by omega) (by omega))
  refine Ev.congr (f := fun k => (spec_TariffsOk.f k l).bind fun t129 => if t129 = true then spec_TariffAt.j0 k l zone t (!tickV t) else spec_TariffAt.j0 k l zone t (!false)) (fun k => ?_) (Ev.bind (tar_spec l hl) ?_)
  · unfold spec_TariffAt.f
    simp only [tick_spec, Option.bind_some, Bool.not_false]
    rfl
  · unfold tariffAt
    rw [show (tarOk [] l && decide (l.length ≤ 40)) = tarV l from rfl]
    cases tarV l
    · simp only [Bool.false_and, Bool.false_eq_true, if_false]; exact J false
    · simp only [Bool.true_and, if_true]; exact J (tickV t)
theorem at_impl0 (l : List S60) (hl : (l.length : Int) ≤ 1048576) (zone t : Int) : Ev (fun k => impl_tariffAt.f k l zone t) (atV l zone t) :=
  imAt_loop l hl zone t l.length 0 (-1) (-1) (by omega) (by omega) (by omega) (by omega)
theorem tarok_impl (l : List S60) (hl : (l.length : Int) ≤ 1048576) : impl_TariffsOk.f l = some (tarV l) := by rw [impl_TariffsOk.f, if_pos (by omega)]; rfl
theorem at_impl (l : List S60) (hl : (l.length : Int) ≤ 1048576) (zone t : Int) : Ev (fun k => impl_TariffAt.f k l zone t) (tariffAt l zone t) := by
  refine Ev.congr (f := fun k => if tarV l = true then (if tickV t = true then (impl_tariffAt.f k l zone t).bind fun t146 => some (t146, decide (t146 ≥ 0)) else some (-1, false)) else some (-1, false)) (fun k => ?_) ?_
  · unfold impl_TariffAt.f
    simp only [tarok_impl l hl, in_impl, Option.bind_some]
    rfl
  · unfold tariffAt
    cases tarV l
    · simp only [Bool.false_and, Bool.false_eq_true, if_false]; exact Ev.now _
    · simp only [Bool.true_and, if_true]
      cases tickV t
      · simp only [Bool.false_eq_true, if_false]; exact Ev.now _
      · simp only [if_true]; exact Ev.bind (at_impl0 l hl zone t) (Ev.now _)

def zoneIn (l : List S60) (zone : Int) : Nat → Int → Prop
  | 0, _ => False
  | d + 1, i => (rd_T60 l i).f0 = zone ∨ zoneIn l zone d (i + 1)
theorem atFrom_pos (l : List S60) (zone tick : Int) : ∀ (d : Nat) (i best last : Int), 0 ≤ i → (0 ≤ best → 0 ≤ last) → (0 ≤ atFrom l zone tick d i best last ↔ zoneIn l zone d i ∨ 0 ≤ last)
  | 0, i, best, last, h0, h => by
    unfold atFrom zoneIn
    split <;> simp <;> omega
  | d + 1, i, best, last, h0, h => by
    have hz : zoneIn l zone (d + 1) i ↔ (rd_T60 l i).f0 = zone ∨ zoneIn l zone d (i + 1) := Iff.rfl
    by_cases c : (rd_T60 l i).f0 = zone
    · have e : atFrom l zone tick (d + 1) i best last = atFrom l zone tick d (i + 1) (bestOf l tick best i) (lastOf l last i) := by rw [atFrom, if_pos c]
      have hl : 0 ≤ lastOf l last i := by unfold lastOf; split <;> omega
      rw [e, atFrom_pos l zone tick d (i + 1) _ _ (by omega) (fun _ => hl), hz]
      simp [c, hl]
    · have e : atFrom l zone tick (d + 1) i best last = atFrom l zone tick d (i + 1) best last := by rw [atFrom, if_neg c]
      rw [e, atFrom_pos l zone tick d (i + 1) _ _ (by omega) h, hz]
      simp [c]
theorem atV_pos (l : List S60) (zone t t' : Int) (h : 0 ≤ atV l zone t) : 0 ≤ atV l zone t' := by
  unfold atV at *
  rw [atFrom_pos l zone _ _ _ _ _ (by omega) (by omega)] at *
  exact h
theorem atV_lt (l : List S60) (zone t : Int) : -1 ≤ atV l zone t ∧ atV l zone t < l.length := by
  have := atFrom_in l zone (Int.tmod t 86400) l.length 0 (-1) (-1) (by omega) (by omega) (by omega)
  unfold atV
  omega
theorem tarOk_all : ∀ (l : List S60) (seen : List (Int × Int)), tarOk seen l = true → ∀ t ∈ l, tarOne t = true
  | [], _, _, t, ht => by cases ht
  | x :: xs, seen, h, t, ht => by
    rw [tarOk] at h
    by_cases c : tarOne x = true ∧ (x.f0, x.f1) ∉ seen
    · rw [if_pos c] at h
      rcases List.mem_cons.1 ht with rfl | ht
      · exact c.1
      · exact tarOk_all xs _ h t ht
    · rw [if_neg c] at h; cases h
theorem tarV_one {l : List S60} (h : tarV l = true) (i : Int) (h0 : 0 ≤ i) (h1 : i < l.length) : tarOne (rd_T60 l i) = true := by
  unfold tarV at h
  simp only [Bool.and_eq_true] at h
  refine tarOk_all l [] h.1 _ ?_
  have : rd_T60 l i = l[i.toNat] := getD_at l z60 i.toNat (by omega)
  rw [this]
  exact List.getElem_mem _
theorem tarV_step {l : List S60} (h : tarV l = true) (i : Int) (h0 : 0 ≤ i) (h1 : i < l.length) : 1 ≤ (rd_T60 l i).f2 ∧ (rd_T60 l i).f2 ≤ 10000 := by
  have := tarV_one h i h0 h1
  unfold tarOne at this
  simp only [Bool.and_eq_true, decide_eq_true_eq] at this
  omega
theorem tariffAt_in {l : List S60} (h : tarV l = true) (zone t : Int) (h0 : 0 ≤ t) (h1 : t ≤ 1000000000) : tariffAt l zone t = (atV l zone t, decide (atV l zone t ≥ 0)) := by
  unfold tariffAt
  rw [if_pos (by simp [h, tickV, h0, h1])]
def rateFrom (l : List S60) (zone e : Int) : Nat → Int → Int → Int → Int × Int
  | 0, _, n, c => (n, c)
  | d + 1, t, n, c => if t < e then rateFrom l zone e d (t + (rd_T60 l (atV l zone t)).f2) (wrap64 (n + 1)) (wrap64 (c + (rd_T60 l (atV l zone t)).f3)) else (n, c)

def ticksV (a b : Int) : Bool := tickV a && (decide (a ≤ b) && decide (b ≤ a + 86400)) && tickV b
theorem rate_impl_loop (l : List S60) (hl : (l.length : Int) ≤ 1048576) (hv : tarV l = true) (zone e : Int) (he : e ≤ 1000000000) (hz : 0 ≤ atV l zone 0) (d : Nat) : ∀ (t n c : Int), 0 ≤ t → t ≤ 1000010000 → e - t ≤ d →
    Ev (fun k => impl_Rate.l0 k l zone e t n c) ((rateFrom l zone e d t n c).1, (rateFrom l zone e d t n c).2, true) := by
  induction d with
  | zero =>
    intro t n c h0 h2 h1
    refine Ev.step (f := fun _ => some (n, c, true)) (fun k => ?_) (Ev.now _)
    simp only [impl_Rate.l0]
    rw [if_neg (by omega)]
  | succ d ih =>
    intro t n c h0 h2 h1
    unfold rateFrom
    by_cases ct : t < e
    · have hz' := atV_pos l zone 0 t hz
      have hlt := (atV_lt l zone t).2
      have hs := tarV_step hv _ hz' hlt
      rw [if_pos ct]
      refine Ev.step (f := fun k => (impl_tariffAt.f k l zone t).bind fun t166 => (if 0 ≤ t166 then (if t166 < (l.length : Int) then (impl_Rate.l0 k l zone e (wrap64 (t + ((rd_T60 l t166).f2))) (wrap64 (n + 1)) (wrap64 (c + ((rd_T60 l t166).f3)))) else (none)) else (none))) (fun k => ?_) (Ev.bind (at_impl0 l hl zone t) ?_)
      · simp only [impl_Rate.l0]
        rw [if_pos ct]
      · simp only [if_pos hz', if_pos hlt]
        rw [w64 (x := t + _) (by omega)]
        exact ih _ _ _ (by omega) (by omega) (by omega)
    · rw [if_neg ct]
      refine Ev.step (f := fun _ => some (n, c, true)) (fun k => ?_) (Ev.now _)
      simp only [impl_Rate.l0]
      rw [if_neg ct]
def rateV (l : List S60) (zone a e : Int) : Int × Int × Bool :=
  if (tarV l && tickV a && decide (0 ≤ atV l zone a) && ticksV a e) = true then ((rateFrom l zone e (e - a).toNat a 0 (rd_T60 l (atV l zone a)).f4).1, (rateFrom l zone e (e - a).toNat a 0 (rd_T60 l (atV l zone a)).f4).2, true) else (0, 0, false)
theorem rate_impl (l : List S60) (hl : (l.length : Int) ≤ 1048576) (zone a e : Int) : Ev (fun k => impl_Rate.f k l zone a e) (rateV l zone a e) := by
  refine Ev.congr (f := fun k => (impl_TariffAt.f k l zone a).bind fun bt143 => if bt143.2 = true then impl_Rate.j0 k l zone a e bt143.1 (!(decide (a ≤ e) && decide (e ≤ mn (wrap64 (a + 86400)) 1000000000))) else impl_Rate.j0 k l zone a e bt143.1 true) (fun k => ?_) (Ev.bind (at_impl l hl zone a) ?_)
  · unfold impl_Rate.f
    simp only [in_impl, Option.bind_some]
  · have N : ∀ i, Ev (fun k => impl_Rate.j0 k l zone a e i true) (0, 0, false) := fun i => Ev.step (f := fun _ => some (0, 0, false)) (fun k => by simp only [impl_Rate.j0, if_true]) (Ev.now _)
    by_cases c1 : (tarV l && tickV a) = true
    · rw [show tariffAt l zone a = (atV l zone a, decide (atV l zone a ≥ 0)) by unfold tariffAt; rw [if_pos c1]]
      have hta : tickV a = true := by simp only [Bool.and_eq_true] at c1; exact c1.2
      have e3 : (decide (a ≤ e) && decide (e ≤ mn (wrap64 (a + 86400)) 1000000000)) = ticksV a e := by
        have ht := hta
        unfold tickV at ht
        simp only [Bool.and_eq_true, decide_eq_true_eq] at ht
        rw [w64 (by omega)]
        unfold ticksV
        rw [hta]
        unfold tickV mn
        rw [Bool.eq_iff_iff]
        simp only [Bool.and_eq_true, decide_eq_true_eq, true_and]
        split <;> omega
      by_cases c2 : atV l zone a ≥ 0
      · simp only [c2, decide_true, if_true, e3]
        cases c3 : ticksV a e
        · have : rateV l zone a e = (0, 0, false) := by unfold rateV; rw [if_neg (by simp [c3])]
          rw [this]; exact N _
        · have hv : tarV l = true := by simp only [Bool.and_eq_true] at c1; exact c1.1
          have ht := c3
          unfold ticksV tickV at ht
          simp only [Bool.and_eq_true, decide_eq_true_eq] at ht
          have : rateV l zone a e = ((rateFrom l zone e (e - a).toNat a 0 (rd_T60 l (atV l zone a)).f4).1, (rateFrom l zone e (e - a).toNat a 0 (rd_T60 l (atV l zone a)).f4).2, true) := by unfold rateV; rw [if_pos (by simp only [c1, c3, Bool.and_true, Bool.true_and, decide_eq_true_eq]; omega)]
          rw [this]
          refine Ev.step (fun k => ?_) (rate_impl_loop l hl hv zone e (by omega) (atV_pos l zone a 0 c2) (e - a).toNat a 0 (rd_T60 l (atV l zone a)).f4 (by omega) (by omega) (by omega))
          simp only [impl_Rate.j0, Bool.not_true, Bool.false_eq_true, if_false]
          rw [if_pos (by omega), if_pos (atV_lt l zone a).2]
      · have : rateV l zone a e = (0, 0, false) := by unfold rateV; rw [if_neg (by simp; omega)]
        rw [this]
        simp only [c2, decide_false, Bool.false_eq_true, if_false]; exact N _
    · have : rateV l zone a e = (0, 0, false) := by unfold rateV; rw [if_neg (fun q => c1 (by simp only [Bool.and_eq_true] at q ⊢; exact q.1.1))]
      rw [this]
      rw [show tariffAt l zone a = (-1, false) by unfold tariffAt; rw [if_neg c1]]
      simp only [Bool.false_eq_true, if_false]; exact N _

def purseV (a b : Int) : Bool := tickV a && tickV b && decide (b ≤ a)
theorem purse_spec (a b : Int) : spec_l9Purse.f a b = some (purseV a b) := by
  unfold spec_l9Purse.f purseV
  simp only [tick_spec, Option.bind_some]
  rw [show (decide (0 ≤ a) && decide (a ≤ 1000000000)) = tickV a from rfl, show (decide (0 ≤ b) && decide (b ≤ 1000000000)) = tickV b from rfl]
  cases tickV a <;> cases tickV b <;> simp
theorem purse_impl (a b : Int) : impl_purseOk.f a b = some (purseV a b) := by
  unfold impl_purseOk.f purseV tickV
  simp only [in_impl, Option.bind_some]
  by_cases c : (decide (0 ≤ a) && decide (a ≤ 1000000000)) = true
  · rw [if_pos c, c]
    simp only [Bool.and_eq_true, decide_eq_true_eq] at c
    congr 1
    rw [Bool.eq_iff_iff]
    simp only [Bool.and_eq_true, decide_eq_true_eq, true_and]
    omega
  · rw [if_neg c]
    simp only [Bool.not_eq_true] at c
    rw [c]
    rfl
/-- What is bought: cost and ticks reached, from cost c at tick t, within room, below tick m. -/
def buy (l : List S60) (zone room m : Int) : Nat → Int → Int → Int × Int
  | 0, c, t => (c, t)
  | d + 1, c, t => if t < m then (if wrap64 (c + (rd_T60 l (atV l zone t)).f3) > room then (c, t) else buy l zone room m d (wrap64 (c + (rd_T60 l (atV l zone t)).f3)) (t + (rd_T60 l (atV l zone t)).f2)) else (c, t)
def outV (p0 p1 a mst : Int) (x : Int × Int) : Int × Int × Int × Bool :=
  let n := if x.2 - a > mst then mst else x.2 - a
  if n < 1 then (p0, p1, 0, false) else (p0, wrap64 (p1 + x.1), n, true)
theorem buy_in (l : List S60) (hv : tarV l = true) (zone room m : Int) (hm : m ≤ 1000000000) (hz : 0 ≤ atV l zone 0) : ∀ (d : Nat) (c t : Int), 0 ≤ t → t ≤ 1000010000 → t ≤ (buy l zone room m d c t).2 ∧ (buy l zone room m d c t).2 ≤ 1000010000
  | 0, c, t, h0, h1 => by unfold buy; omega
  | d + 1, c, t, h0, h1 => by
    unfold buy
    by_cases ct : t < m
    · rw [if_pos ct]
      split
      · omega
      · have hs := tarV_step hv _ (atV_pos l zone 0 t hz) (atV_lt l zone t).2
        have := buy_in l hv zone room m hm hz d (wrap64 (c + (rd_T60 l (atV l zone t)).f3)) (t + (rd_T60 l (atV l zone t)).f2) (by omega) (by omega)
        omega
    · rw [if_neg ct]; omega
theorem res_j3 (a mst0 p0 p1 c t : Int) (ha : 0 ≤ a ∧ a ≤ 1000000000) (hm : 1 ≤ mst0 ∧ mst0 ≤ 86400) (ht : a ≤ t ∧ t ≤ 1000010000) : Ev (fun k => spec_Reserve.j3 k a mst0 c t p0 p1) (outV p0 p1 a (mn mst0 (1000000000 - a)) (c, t)) := by
  have J4 : ∀ n : Int, 0 ≤ n → n ≤ 86400 → Ev (fun k => spec_Reserve.j4 k a c n p0 p1) (if (mn n (1000000000 - a)) < 1 then (p0, p1, 0, false) else (p0, wrap64 (p1 + c), mn n (1000000000 - a), true)) := by
    intro n h0 h1
    refine Ev.step (f := fun _ => some (if (mn n (1000000000 - a)) < 1 then (p0, p1, 0, false) else (p0, wrap64 (p1 + c), mn n (1000000000 - a), true))) (fun k => ?_) (Ev.now _)
    simp only [spec_Reserve.j4]
    rw [w64 (x := a + n) (by omega), w64 (x := 1000000000 - a) (by omega)]
    by_cases q : a + n > 1000000000
    · have e : mn n (1000000000 - a) = 1000000000 - a := by unfold mn; rw [if_pos (by omega)]
      rw [if_pos q, e]
      by_cases q2 : 1000000000 - a < 1
      · rw [if_pos q2, if_pos q2]
      · rw [if_neg q2, if_neg q2]
    · have e : mn n (1000000000 - a) = n := by unfold mn; rw [if_neg (by omega)]
      rw [if_neg q, e]
      by_cases q2 : n < 1
      · rw [if_pos q2, if_pos q2]
      · rw [if_neg q2, if_neg q2]
  have e : outV p0 p1 a (mn mst0 (1000000000 - a)) (c, t) = (if (mn (if t - a > mst0 then mst0 else t - a) (1000000000 - a)) < 1 then (p0, p1, 0, false) else (p0, wrap64 (p1 + c), mn (if t - a > mst0 then mst0 else t - a) (1000000000 - a), true)) := by
    unfold outV
    have : (if t - a > mn mst0 (1000000000 - a) then mn mst0 (1000000000 - a) else t - a) = mn (if t - a > mst0 then mst0 else t - a) (1000000000 - a) := by unfold mn; (repeat' split) <;> omega
    simp only [this]
  rw [e]
  by_cases q : t - a > mst0
  · refine Ev.step (fun k => ?_) (by simpa only [if_pos q] using J4 mst0 (by omega) (by omega))
    simp only [spec_Reserve.j3]
    rw [w64 (x := t - a) (by omega), if_pos q]
  · refine Ev.step (fun k => ?_) (by simpa only [if_neg q] using J4 (t - a) (by omega) (by omega))
    simp only [spec_Reserve.j3]
    rw [w64 (x := t - a) (by omega), if_neg q]
theorem res_spec_loop (l : List S60) (hl : (l.length : Int) ≤ 1048576) (hv : tarV l = true) (zone : Int) (hz : 0 ≤ atV l zone 0) (a mst0 room p0 p1 : Int) (ha : 0 ≤ a ∧ a ≤ 1000000000) (hm : 1 ≤ mst0 ∧ mst0 ≤ 86400) (d : Nat) :
    ∀ (c t : Int), a ≤ t → t ≤ 1000010000 → mn (a + mst0) 1000000000 - t ≤ d → Ev (fun k => spec_Reserve.l0 k l zone a mst0 room c t p0 p1) (outV p0 p1 a (mn mst0 (1000000000 - a)) (buy l zone room (mn (a + mst0) 1000000000) d c t)) := by
  have L : ∀ (c t : Int) (R : Int × Int × Int × Bool), Ev (fun k => spec_Reserve.j2 k l zone a mst0 room c t (decide (t < mn (a + mst0) 1000000000)) p0 p1) R → Ev (fun k => spec_Reserve.l0 k l zone a mst0 room c t p0 p1) R := by
    intro c t R h
    refine Ev.step (fun k => ?_) h
    simp only [spec_Reserve.l0]
    rw [w64 (x := a + mst0) (by omega)]
    have : decide (t < mn (a + mst0) 1000000000) = (decide (t < a + mst0) && decide (t < 1000000000)) := by rw [Bool.eq_iff_iff]; simp only [Bool.and_eq_true, decide_eq_true_eq]; unfold mn; split <;> omega
    rw [this]
    by_cases q : t < a + mst0
    · rw [if_pos q]; simp [q]
    · rw [if_neg q]; simp [q]
  induction d with
  | zero =>
    intro c t h0 h2 h1
    refine L c t _ (Ev.step (fun k => ?_) (res_j3 a mst0 p0 p1 c t ha hm (by omega)))
    simp only [spec_Reserve.j2]
    rw [if_neg (by simp; omega)]
  | succ d ih =>
    intro c t h0 h2 h1
    unfold buy
    by_cases ct : t < mn (a + mst0) 1000000000
    · have hz' := atV_pos l zone 0 t hz
      have hlt := (atV_lt l zone t).2
      have hs := tarV_step hv _ hz' hlt
      have hmn : mn (a + mst0) 1000000000 ≤ 1000000000 := by unfold mn; split <;> omega
      rw [if_pos ct]
      refine L c t _ (Ev.step (f := fun k => (spec_TariffAt.f k l zone t).bind fun bt154 => (if 0 ≤ bt154.1 then (if bt154.1 < (l.length : Int) then (if (wrap64 (c + ((rd_T60 l bt154.1).f3))) > room then (spec_Reserve.j3 k a mst0 c t p0 p1) else (spec_Reserve.l0 k l zone a mst0 room (wrap64 (c + ((rd_T60 l bt154.1).f3))) (wrap64 (t + ((rd_T60 l bt154.1).f2))) p0 p1)) else (none)) else (none))) (fun k => ?_) (Ev.bind (at_spec l hl zone t) ?_))
      · simp only [spec_Reserve.j2]
        rw [if_pos (by simpa using ct)]
      · rw [tariffAt_in hv zone t (by omega) (by omega)]
        simp only [if_pos hz', if_pos hlt]
        rw [w64 (x := t + _) (by omega)]
        by_cases q : wrap64 (c + (rd_T60 l (atV l zone t)).f3) > room
        · simp only [if_pos q]; exact res_j3 a mst0 p0 p1 c t ha hm (by omega)
        · simp only [if_neg q]; exact ih _ _ (by omega) (by omega) (by omega)
    · rw [if_neg ct]
      refine L c t _ (Ev.step (fun k => ?_) (res_j3 a mst0 p0 p1 c t ha hm (by omega)))
      simp only [spec_Reserve.j2]
      rw [if_neg (by simpa using ct)]

theorem out_impl (p0 p1 a m c t n kept : Int) (hn : n = (if t - a > m then m else t - a)) (hk : n = 0 ∨ kept = c) (hm : 0 ≤ m) (ht : a ≤ t) : (if n = 0 then some (p0, p1, 0, false) else some (p0, wrap64 (p1 + kept), n, true)) = some (outV p0 p1 a m (c, t)) := by
  unfold outV
  simp only [← hn]
  by_cases q : n = 0
  · rw [if_pos q, if_pos (by omega)]
  · have h1 : ¬ n < 1 := by rw [hn] at q ⊢; revert q; split <;> omega
    rcases hk with hk | hk
    · exact absurd hk q
    · rw [if_neg q, if_neg h1, hk]
theorem res_impl_loop (l : List S60) (hl : (l.length : Int) ≤ 1048576) (hv : tarV l = true) (zone : Int) (hz : 0 ≤ atV l zone 0) (a mst0 room p0 p1 : Int) (ha : 0 ≤ a ∧ a ≤ 1000000000) (hm : 1 ≤ mst0 ∧ mst0 ≤ 86400) (d : Nat) :
    ∀ (c t n kept : Int), a ≤ t → t ≤ 1000010000 → mn (a + mst0) 1000000000 - t ≤ d → n = (if t - a > mn mst0 (1000000000 - a) then mn mst0 (1000000000 - a) else t - a) → (n = 0 ∨ kept = c) →
    Ev (fun k => impl_Reserve.l0 k l zone a (mn mst0 (1000000000 - a)) room c t n kept p0 p1) (outV p0 p1 a (mn mst0 (1000000000 - a)) (buy l zone room (mn (a + mst0) 1000000000) d c t)) := by
  have hM : mn (a + mst0) 1000000000 = a + mn mst0 (1000000000 - a) := by unfold mn; split <;> split <;> omega
  have hM0 : 0 ≤ mn mst0 (1000000000 - a) ∧ mn mst0 (1000000000 - a) ≤ 86400 ∧ mn mst0 (1000000000 - a) ≤ 1000000000 - a := by unfold mn; split <;> omega
  rw [hM]
  generalize mn mst0 (1000000000 - a) = m at *
  induction d with
  | zero =>
    intro c t n kept h0 h2 h1 hn hk
    refine Ev.step (f := fun _ => some (outV p0 p1 a m (c, t))) (fun k => ?_) (Ev.now _)
    simp only [impl_Reserve.l0]
    rw [if_neg (by rw [hn]; split <;> omega)]
    exact out_impl p0 p1 a m c t n kept hn hk (by omega) (by omega)
  | succ d ih =>
    intro c t n kept h0 h2 h1 hn hk
    unfold buy
    by_cases ct : t < a + m
    · have hz' := atV_pos l zone 0 t hz
      have hlt := (atV_lt l zone t).2
      have hs := tarV_step hv _ hz' hlt
      rw [if_pos ct]
      refine Ev.step (f := fun k => (impl_tariffAt.f k l zone t).bind fun t177 => (if 0 ≤ t177 then (if t177 < (l.length : Int) then (if (wrap64 (c + ((rd_T60 l t177).f3))) > room then (if n = 0 then (some (p0, p1, 0, false)) else (some (p0, wrap64 (p1 + kept), n, true))) else (impl_Reserve.l0 k l zone a m room (wrap64 (c + ((rd_T60 l t177).f3))) (wrap64 (t + ((rd_T60 l t177).f2))) (mn m (wrap64 ((wrap64 (t + ((rd_T60 l t177).f2))) - a))) (wrap64 (c + ((rd_T60 l t177).f3))) p0 p1)) else (none)) else (none))) (fun k => ?_) (Ev.bind (at_impl0 l hl zone t) ?_)
      · simp only [impl_Reserve.l0]
        rw [if_pos (by rw [hn]; split <;> omega)]
      · simp only [if_pos hz', if_pos hlt]
        rw [w64 (x := t + _) (by omega), w64 (x := _ - a) (by omega)]
        by_cases q : wrap64 (c + (rd_T60 l (atV l zone t)).f3) > room
        · simp only [if_pos q]
          rw [out_impl p0 p1 a m c t n kept hn hk (by omega) (by omega)]
          exact Ev.now _
        · simp only [if_neg q]
          refine ih _ _ _ _ (by omega) (by omega) (by omega) ?_ (Or.inr rfl)
          unfold mn
          split <;> split <;> omega
    · rw [if_neg ct]
      refine Ev.step (f := fun _ => some (outV p0 p1 a m (c, t))) (fun k => ?_) (Ev.now _)
      simp only [impl_Reserve.l0]
      rw [if_neg (by rw [hn]; split <;> omega)]
      exact out_impl p0 p1 a m c t n kept hn hk (by omega) (by omega)
def resV (l : List S60) (p0 p1 zone a mst0 : Int) : Int × Int × Int × Bool :=
  if (tarV l && tickV a && decide (0 ≤ atV l zone a) && purseV p0 p1 && (decide (1 ≤ mst0) && decide (mst0 ≤ 86400))) = true then
    outV p0 p1 a (mn mst0 (1000000000 - a)) (buy l zone (wrap64 (p0 - p1)) (mn (a + mst0) 1000000000) (mn (a + mst0) 1000000000 - a).toNat (rd_T60 l (atV l zone a)).f4 a)
  else (p0, p1, 0, false)
theorem res_spec (l : List S60) (hl : (l.length : Int) ≤ 1048576) (p0 p1 zone a mst0 : Int) : Ev (fun k => spec_Reserve.f k p0 p1 l zone a mst0) (resV l p0 p1 zone a mst0) := by
  refine Ev.congr (f := fun k => (spec_TariffAt.f k l zone a).bind fun bt149 => if bt149.2 = true then (if purseV p0 p1 = true then spec_Reserve.j0 k l zone a mst0 bt149.1 (!(decide (1 ≤ mst0) && decide (mst0 ≤ 86400))) p0 p1 else spec_Reserve.j0 k l zone a mst0 bt149.1 true p0 p1) else spec_Reserve.j0 k l zone a mst0 bt149.1 true p0 p1) (fun k => ?_) (Ev.bind (at_spec l hl zone a) ?_)
  · unfold spec_Reserve.f
    simp only [purse_spec, in_spec, Option.bind_some]
  · have N : ∀ i, Ev (fun k => spec_Reserve.j0 k l zone a mst0 i true p0 p1) (p0, p1, 0, false) := fun i => Ev.step (f := fun _ => some (p0, p1, 0, false)) (fun k => by simp only [spec_Reserve.j0, if_true]) (Ev.now _)
    by_cases c1 : (tarV l && tickV a) = true
    · rw [show tariffAt l zone a = (atV l zone a, decide (atV l zone a ≥ 0)) by unfold tariffAt; rw [if_pos c1]]
      by_cases c2 : atV l zone a ≥ 0
      · simp only [c2, decide_true, if_true]
        cases c3 : purseV p0 p1
        · rw [show resV l p0 p1 zone a mst0 = (p0, p1, 0, false) by unfold resV; rw [if_neg (by simp [c3])]]
          simp only [Bool.false_eq_true, if_false]; exact N _
        · simp only [if_true]
          cases c4 : (decide (1 ≤ mst0) && decide (mst0 ≤ 86400))
          · rw [show resV l p0 p1 zone a mst0 = (p0, p1, 0, false) by unfold resV; rw [if_neg (by simp [c4])]]
            exact N _
          · have hv : tarV l = true := by simp only [Bool.and_eq_true] at c1; exact c1.1
            have ht := c1
            unfold tickV at ht
            simp only [Bool.and_eq_true, decide_eq_true_eq] at ht
            have h4 := c4
            simp only [Bool.and_eq_true, decide_eq_true_eq] at h4
            have e : resV l p0 p1 zone a mst0 = outV p0 p1 a (mn mst0 (1000000000 - a)) (buy l zone (wrap64 (p0 - p1)) (mn (a + mst0) 1000000000) (mn (a + mst0) 1000000000 - a).toNat (rd_T60 l (atV l zone a)).f4 a) := by unfold resV; rw [if_pos (by simp only [c1, c3, c4, Bool.and_true, Bool.true_and, decide_eq_true_eq]; omega)]
            rw [e]
            refine Ev.step (fun k => ?_) (res_spec_loop l hl hv zone (atV_pos l zone a 0 c2) a mst0 (wrap64 (p0 - p1)) p0 p1 (by omega) (by omega) _ _ a (by omega) (by omega) (by omega))
            simp only [spec_Reserve.j0, Bool.not_true, Bool.false_eq_true, if_false]
            rw [if_pos (by omega), if_pos (atV_lt l zone a).2]
      · rw [show resV l p0 p1 zone a mst0 = (p0, p1, 0, false) by unfold resV; rw [if_neg (by simp; omega)]]
        simp only [c2, decide_false, Bool.false_eq_true, if_false]; exact N _
    · rw [show resV l p0 p1 zone a mst0 = (p0, p1, 0, false) by unfold resV; rw [if_neg (fun q => c1 (by simp only [Bool.and_eq_true] at q ⊢; exact q.1.1.1))]]
      rw [show tariffAt l zone a = (-1, false) by unfold tariffAt; rw [if_neg c1]]
      simp only [Bool.false_eq_true, if_false]; exact N _
theorem res_impl (l : List S60) (hl : (l.length : Int) ≤ 1048576) (p0 p1 zone a mst0 : Int) : Ev (fun k => impl_Reserve.f k p0 p1 l zone a mst0) (resV l p0 p1 zone a mst0) := by
  refine Ev.congr (f := fun k => (impl_TariffAt.f k l zone a).bind fun bt149 => if bt149.2 = true then (if purseV p0 p1 = true then impl_Reserve.j0 k l zone a mst0 bt149.1 (!(decide (1 ≤ mst0) && decide (mst0 ≤ 86400))) p0 p1 else impl_Reserve.j0 k l zone a mst0 bt149.1 true p0 p1) else impl_Reserve.j0 k l zone a mst0 bt149.1 true p0 p1) (fun k => ?_) (Ev.bind (at_impl l hl zone a) ?_)
  · unfold impl_Reserve.f
    simp only [purse_impl, in_impl, Option.bind_some]
  · have N : ∀ i, Ev (fun k => impl_Reserve.j0 k l zone a mst0 i true p0 p1) (p0, p1, 0, false) := fun i => Ev.step (f := fun _ => some (p0, p1, 0, false)) (fun k => by simp only [impl_Reserve.j0, if_true]) (Ev.now _)
    by_cases c1 : (tarV l && tickV a) = true
    · rw [show tariffAt l zone a = (atV l zone a, decide (atV l zone a ≥ 0)) by unfold tariffAt; rw [if_pos c1]]
      by_cases c2 : atV l zone a ≥ 0
      · simp only [c2, decide_true, if_true]
        cases c3 : purseV p0 p1
        · rw [show resV l p0 p1 zone a mst0 = (p0, p1, 0, false) by unfold resV; rw [if_neg (by simp [c3])]]
          simp only [Bool.false_eq_true, if_false]; exact N _
        · simp only [if_true]
          cases c4 : (decide (1 ≤ mst0) && decide (mst0 ≤ 86400))
          · rw [show resV l p0 p1 zone a mst0 = (p0, p1, 0, false) by unfold resV; rw [if_neg (by simp [c4])]]
            exact N _
          · have hv : tarV l = true := by simp only [Bool.and_eq_true] at c1; exact c1.1
            have ht := c1
            unfold tickV at ht
            simp only [Bool.and_eq_true, decide_eq_true_eq] at ht
            have h4 := c4
            simp only [Bool.and_eq_true, decide_eq_true_eq] at h4
            have e : resV l p0 p1 zone a mst0 = outV p0 p1 a (mn mst0 (1000000000 - a)) (buy l zone (wrap64 (p0 - p1)) (mn (a + mst0) 1000000000) (mn (a + mst0) 1000000000 - a).toNat (rd_T60 l (atV l zone a)).f4 a) := by unfold resV; rw [if_pos (by simp only [c1, c3, c4, Bool.and_true, Bool.true_and, decide_eq_true_eq]; omega)]
            rw [e]
            have hm0 : 0 ≤ mn mst0 (1000000000 - a) := by unfold mn; split <;> omega
            refine Ev.step (fun k => ?_) (res_impl_loop l hl hv zone (atV_pos l zone a 0 c2) a mst0 (wrap64 (p0 - p1)) p0 p1 (by omega) (by omega) _ (rd_T60 l (atV l zone a)).f4 a 0 0 (by omega) (by omega) (by omega) (by split <;> omega) (Or.inl rfl))
            simp only [impl_Reserve.j0, Bool.not_true, Bool.false_eq_true, if_false]
            rw [if_pos (by omega), if_pos (atV_lt l zone a).2, w64 (x := 1000000000 - a) (by omega)]
      · rw [show resV l p0 p1 zone a mst0 = (p0, p1, 0, false) by unfold resV; rw [if_neg (by simp; omega)]]
        simp only [c2, decide_false, Bool.false_eq_true, if_false]; exact N _
    · rw [show resV l p0 p1 zone a mst0 = (p0, p1, 0, false) by unfold resV; rw [if_neg (fun q => c1 (by simp only [Bool.and_eq_true] at q ⊢; exact q.1.1.1))]]
      rw [show tariffAt l zone a = (-1, false) by unfold tariffAt; rw [if_neg c1]]
      simp only [Bool.false_eq_true, if_false]; exact N _

theorem tarV_price {l : List S60} (h : tarV l = true) (i : Int) (h0 : 0 ≤ i) (h1 : i < l.length) : (0 ≤ (rd_T60 l i).f3 ∧ (rd_T60 l i).f3 ≤ 100000) ∧ (0 ≤ (rd_T60 l i).f4 ∧ (rd_T60 l i).f4 ≤ 100000) := by
  have := tarV_one h i h0 h1
  unfold tarOne at this
  simp only [Bool.and_eq_true, decide_eq_true_eq] at this
  omega
/-- What the walk through the tariffs keeps: the cost is bounded by the ticks gone. -/
def Fair (a c t : Int) : Prop := 0 ≤ c ∧ c ≤ 100000 * (t - a + 1) ∧ a ≤ t ∧ 0 ≤ a ∧ t ≤ a + 200000 ∧ a ≤ 1000000000
theorem fair_step {l : List S60} (hv : tarV l = true) (zone : Int) (hz : 0 ≤ atV l zone 0) {a c t : Int} (h : Fair a c t) (ht : t ≤ a + 100000) :
    wrap64 (c + (rd_T60 l (atV l zone t)).f3) = c + (rd_T60 l (atV l zone t)).f3 ∧ Fair a (c + (rd_T60 l (atV l zone t)).f3) (t + (rd_T60 l (atV l zone t)).f2) ∧ 1 ≤ (rd_T60 l (atV l zone t)).f2 ∧ 0 ≤ (rd_T60 l (atV l zone t)).f3 := by
  have hs := tarV_step hv _ (atV_pos l zone 0 t hz) (atV_lt l zone t).2
  have hp := (tarV_price hv _ (atV_pos l zone 0 t hz) (atV_lt l zone t).2).1
  unfold Fair at *
  refine ⟨w64 (by omega), by omega, hs.1, hp.1⟩
theorem rate_ge (l : List S60) (hv : tarV l = true) (zone a e : Int) (he : e ≤ a + 100000) (hz : 0 ≤ atV l zone 0) : ∀ (D : Nat) (c t n : Int), Fair a c t → c ≤ (rateFrom l zone e D t n c).2
  | 0, c, t, n, hf => by unfold rateFrom; omega
  | D + 1, c, t, n, hf => by
    unfold rateFrom
    by_cases ct : t < e
    · rw [if_pos ct]
      obtain ⟨e1, f1, _, p1⟩ := fair_step hv zone hz hf (by omega)
      rw [e1]
      have := rate_ge l hv zone a e he hz D _ _ (wrap64 (n + 1)) f1
      omega
    · rw [if_neg ct]; omega
theorem rate_mono (l : List S60) (hv : tarV l = true) (zone a e1 e2 : Int) (he : e1 ≤ e2) (he2 : e2 ≤ a + 100000) (hz : 0 ≤ atV l zone 0) : ∀ (D1 D2 : Nat) (c t n n2 : Int), Fair a c t → e2 - t ≤ D2 →
    (rateFrom l zone e1 D1 t n c).2 ≤ (rateFrom l zone e2 D2 t n2 c).2
  | 0, D2, c, t, n, n2, hf, hd => by
    have := rate_ge l hv zone a e2 he2 hz D2 c t n2 hf
    unfold rateFrom at *
    simp only at *
    omega
  | D1 + 1, D2, c, t, n, n2, hf, hd => by
    by_cases ct : t < e1
    · cases D2 with
      | zero => omega
      | succ D2 =>
        obtain ⟨e1', f1, s1, p1⟩ := fair_step hv zone hz hf (by omega)
        unfold rateFrom
        rw [if_pos ct, if_pos (by omega), e1']
        exact rate_mono l hv zone a e1 e2 he he2 hz D1 D2 _ _ _ _ f1 (by omega)
    · have := rate_ge l hv zone a e2 he2 hz D2 c t n2 hf
      have e : (rateFrom l zone e1 (D1 + 1) t n c).2 = c := by unfold rateFrom; rw [if_neg ct]
      rw [e]
      exact this

theorem buy_facts (l : List S60) (hv : tarV l = true) (zone room a m : Int) (hm : m ≤ a + 86400) (hz : 0 ≤ atV l zone 0) : ∀ (d : Nat) (c t : Int), Fair a c t → m - t ≤ d → t ≤ m + 10000 →
    Fair a (buy l zone room m d c t).1 (buy l zone room m d c t).2 ∧ t ≤ (buy l zone room m d c t).2 ∧ ((buy l zone room m d c t).1 ≤ room ∨ ((buy l zone room m d c t).1 = c ∧ (buy l zone room m d c t).2 = t)) ∧ ((buy l zone room m d c t).2 < m → wrap64 ((buy l zone room m d c t).1 + (rd_T60 l (atV l zone (buy l zone room m d c t).2)).f3) > room)
  | 0, c, t, hf, hd, h2 => by
    unfold buy
    exact ⟨hf, by simp, by simp, fun q => by simp only at q; omega⟩
  | d + 1, c, t, hf, hd, h2 => by
    unfold buy
    by_cases ct : t < m
    · rw [if_pos ct]
      obtain ⟨e1, f1, s1, _⟩ := fair_step hv zone hz hf (by unfold Fair at hf; omega)
      have hs := tarV_step hv _ (atV_pos l zone 0 t hz) (atV_lt l zone t).2
      by_cases q : wrap64 (c + (rd_T60 l (atV l zone t)).f3) > room
      · rw [if_pos q]
        exact ⟨hf, by simp, by simp, fun _ => q⟩
      · rw [if_neg q]
        rw [e1] at q ⊢
        have ih := buy_facts l hv zone room a m hm hz d _ _ f1 (by omega) (by omega)
        exact ⟨ih.1, by have := ih.2.1; omega, by rcases ih.2.2.1 with h | ⟨h, _⟩ <;> (left; omega), ih.2.2.2⟩
    · rw [if_neg ct]
      exact ⟨hf, by simp, by simp, fun q => by simp only at q; omega⟩
theorem buy_rate (l : List S60) (hv : tarV l = true) (zone room a m : Int) (hm : m ≤ a + 86400) (hz : 0 ≤ atV l zone 0) : ∀ (d : Nat) (c t : Int) (D : Nat) (n : Int), Fair a c t → m - t ≤ d → t ≤ m + 10000 →
    mn m (buy l zone room m d c t).2 - t ≤ D → (rateFrom l zone (mn m (buy l zone room m d c t).2) D t n c).2 = (buy l zone room m d c t).1
  | 0, c, t, D, n, hf, hd, h2, hD => by
    unfold buy at hD ⊢
    have e : mn m t = m := by unfold mn; split <;> omega
    simp only [e]
    cases D with
    | zero => rfl
    | succ D => unfold rateFrom; rw [if_neg (by omega)]
  | d + 1, c, t, D, n, hf, hd, h2, hD => by
    have hT := (buy_facts l hv zone room a m hm hz (d + 1) c t hf hd h2).2.1
    unfold buy at hD hT ⊢
    by_cases ct : t < m
    · rw [if_pos ct] at hD hT ⊢
      obtain ⟨e1, f1, s1, _⟩ := fair_step hv zone hz hf (by unfold Fair at hf; omega)
      have hs := tarV_step hv _ (atV_pos l zone 0 t hz) (atV_lt l zone t).2
      by_cases q : wrap64 (c + (rd_T60 l (atV l zone t)).f3) > room
      · rw [if_pos q]
        have e : mn m t = t := by unfold mn; split <;> omega
        simp only [e]
        cases D with
        | zero => rfl
        | succ D => unfold rateFrom; rw [if_neg (by omega)]
      · rw [if_neg q] at hD hT ⊢
        rw [e1] at hD hT ⊢
        have hT2 := (buy_facts l hv zone room a m hm hz d _ _ f1 (by omega) (by omega)).2.1
        have hlt : t < mn m (buy l zone room m d (c + (rd_T60 l (atV l zone t)).f3) (t + (rd_T60 l (atV l zone t)).f2)).2 := by unfold mn; split <;> omega
        cases D with
        | zero => omega
        | succ D =>
          unfold rateFrom
          rw [if_pos hlt, e1]
          exact buy_rate l hv zone room a m hm hz d _ _ D _ f1 (by omega) (by omega) (by omega)
    · rw [if_neg ct] at hD hT ⊢
      have e : mn m t = m := by unfold mn; split <;> omega
      simp only [e]
      cases D with
      | zero => rfl
      | succ D => unfold rateFrom; rw [if_neg (by omega)]
theorem buy_more (l : List S60) (hv : tarV l = true) (zone room a m : Int) (hm : m ≤ a + 86400) (hz : 0 ≤ atV l zone 0) : ∀ (d : Nat) (c t : Int) (D : Nat) (n : Int), Fair a c t → m - t ≤ d → t ≤ m + 10000 →
    (buy l zone room m d c t).2 < m → (buy l zone room m d c t).2 + 1 - t ≤ D → (rateFrom l zone ((buy l zone room m d c t).2 + 1) D t n c).2 > room
  | 0, c, t, D, n, hf, hd, h2, hlt, hD => by
    unfold buy at hlt
    simp only at hlt
    omega
  | d + 1, c, t, D, n, hf, hd, h2, hlt, hD => by
    unfold buy at hD hlt ⊢
    by_cases ct : t < m
    · rw [if_pos ct] at hD hlt ⊢
      obtain ⟨e1, f1, s1, _⟩ := fair_step hv zone hz hf (by unfold Fair at hf; omega)
      have hs := tarV_step hv _ (atV_pos l zone 0 t hz) (atV_lt l zone t).2
      by_cases q : wrap64 (c + (rd_T60 l (atV l zone t)).f3) > room
      · rw [if_pos q] at hD ⊢
        cases D with
        | zero => simp only at hD; omega
        | succ D =>
          unfold rateFrom
          rw [if_pos (by simp only; omega)]
          cases D with
          | zero => exact q
          | succ D => unfold rateFrom; rw [if_neg (by simp only; omega)]; exact q
      · rw [if_neg q] at hD hlt ⊢
        rw [e1] at hD hlt ⊢
        have hT2 := (buy_facts l hv zone room a m hm hz d _ _ f1 (by omega) (by omega)).2.1
        cases D with
        | zero => omega
        | succ D =>
          unfold rateFrom
          rw [if_pos (by omega), e1]
          exact buy_more l hv zone room a m hm hz d _ _ D _ f1 (by omega) (by omega) hlt (by omega)
    · rw [if_neg ct] at hlt
      simp only at hlt
      omega


/-! The cursor over what is drawn: it never falls, whatever its numbers -/
theorem and_bound (x m : Int) (h0 : 0 ≤ m) (h1 : m ≤ 2000000000) : 0 ≤ Go.bits .and .i64 x m ∧ Go.bits .and .i64 x m ≤ m := by
  have e : (BitVec.ofInt 64 m).toNat = m.toNat := by
    rw [BitVec.toNat_ofInt]
    have : m % ((2 ^ 64 : Nat) : Int) = m := Int.emod_eq_of_lt h0 (by omega)
    rw [this]
  have hle : (BitVec.ofInt 64 x &&& BitVec.ofInt 64 m).toNat ≤ m.toNat := by
    rw [BitVec.toNat_and, e]
    exact Nat.and_le_right
  have hw : Go.bits .and .i64 x m = ((BitVec.ofInt 64 x &&& BitVec.ofInt 64 m).toNat : Int) := by
    show IntKind.i64.wrap (((BitVec.ofInt 64 x &&& BitVec.ofInt 64 m).toNat : Nat) : Int) = _
    rw [IntKind.wrap_i64]
    omega
  omega
theorem byte_ok (l : List Int) (s1 s2 : Int) (hl : (l.length : Int) ≤ 1048576) (h0 : 0 ≤ s1) : ∃ b t1 t2, spec_l1Byte.f l s1 s2 = some (b, t1, t2) ∧ 0 ≤ b ∧ b ≤ 255 ∧ 0 ≤ t1 := by
  unfold spec_l1Byte.f
  by_cases c : s1 < (l.length : Int)
  · rw [if_pos c, if_pos h0]
    refine ⟨_, _, _, rfl, (and_bound _ 255 (by omega) (by omega)).1, (and_bound _ 255 (by omega) (by omega)).2, ?_⟩
    rw [w64 (by omega)]
    omega
  · rw [if_neg c]
    exact ⟨_, _, _, rfl, (and_bound _ 255 (by omega) (by omega)).1, (and_bound _ 255 (by omega) (by omega)).2, h0⟩
theorem below_ok (l : List Int) (s1 s2 n : Int) (hl : (l.length : Int) ≤ 1048576) (h0 : 0 ≤ s1) : ∃ r t1 t2, spec_l1Below.f l s1 s2 n = some (r, t1, t2) ∧ 0 ≤ t1 ∧ (0 < n → 0 ≤ r ∧ r < n) ∧ (n ≤ 0 → r = 0) := by
  unfold spec_l1Below.f
  by_cases c : n ≤ 0
  · rw [if_pos c]
    exact ⟨_, _, _, rfl, h0, fun h => absurd h (by omega), fun _ => rfl⟩
  · rw [if_neg c]
    by_cases c2 : n ≤ 256
    · rw [if_pos c2]
      obtain ⟨b, t1, t2, e, b0, b1, b2⟩ := byte_ok l s1 s2 hl h0
      rw [e]
      simp only [Option.bind_some]
      rw [if_neg (by omega)]
      refine ⟨_, _, _, rfl, b2, fun _ => ?_, fun h => absurd h (by omega)⟩
      rw [Int.tmod_eq_emod_of_nonneg b0]
      exact ⟨Int.emod_nonneg _ (by omega), Int.emod_lt_of_pos _ (by omega)⟩
    · rw [if_neg c2]
      obtain ⟨b, t1, t2, e, b0, b1, b2⟩ := byte_ok l s1 s2 hl h0
      rw [e]
      simp only [Option.bind_some]
      obtain ⟨b', t1', t2', e', b0', b1', b2'⟩ := byte_ok l t1 t2 hl b2
      rw [e']
      simp only [Option.bind_some]
      obtain ⟨b'', t1'', t2'', e'', b0'', b1'', b2''⟩ := byte_ok l t1' t2' hl b2'
      rw [e'']
      simp only [Option.bind_some]
      obtain ⟨c', u1, u2, f, g0, g1, g2⟩ := byte_ok l t1'' t2'' hl b2''
      rw [f]
      simp only [Option.bind_some]
      rw [if_neg (by omega)]
      refine ⟨_, _, _, rfl, g2, fun _ => ?_, fun h => absurd h (by omega)⟩
      rw [Int.tmod_eq_emod_of_nonneg (by unfold wrap64; omega)]
      exact ⟨Int.emod_nonneg _ (by omega), Int.emod_lt_of_pos _ (by omega)⟩
theorem once_ok (l : List Int) (s1 s2 n : Int) (hl : (l.length : Int) ≤ 1048576) (h0 : 0 ≤ s1) : ∃ r t1 t2, spec_l1Once.f l s1 s2 n = some (r, t1, t2) ∧ 0 ≤ t1 := by
  unfold spec_l1Once.f
  obtain ⟨r, t1, t2, e, h, _⟩ := below_ok l s1 s2 n hl h0
  rw [e]
  exact ⟨_, _, _, rfl, h⟩
theorem new_ok (l : List Int) (hl : (l.length : Int) ≤ 1048576) : ∃ h, Ev (fun k => spec_l1New.f k l) (l, 0, h) := by
  have key : ∀ (d : Nat) (i h : Int), 0 ≤ i → i ≤ l.length → (l.length : Int) - i = d → ∃ h', Ev (fun k => spec_l1New.l0 k l h i) (l, 0, h') := by
    intro d
    induction d with
    | zero =>
      intro i h h0 h1 hd
      refine ⟨h, Ev.step (f := fun _ => some (l, 0, h)) (fun k => ?_) (Ev.now _)⟩
      simp only [spec_l1New.l0]
      rw [if_neg (by omega)]
    | succ d ih =>
      intro i h h0 h1 hd
      have ei : wrap64 (i + 1) = i + 1 := w64 (by omega)
      by_cases c : i < 4000
      · obtain ⟨h', hh⟩ := ih (i + 1) (Go.bits .and .i64 (wrap64 ((wrap64 ((wrap64 (h * 131)) + (wrap64 (rd l i)))) + 7)) 1073741823) (by omega) (by omega) (by omega)
        refine ⟨h', Ev.step (fun k => ?_) hh⟩
        simp only [spec_l1New.l0]
        rw [if_pos (by omega), if_pos c, if_pos h0, ei]
      · refine ⟨h, Ev.step (f := fun _ => some (l, 0, h)) (fun k => ?_) (Ev.now _)⟩
        simp only [spec_l1New.l0]
        rw [if_pos (by omega), if_neg c]
  exact key l.length 0 _ (by omega) (by omega) (by omega)


theorem pick_ok (l : List Int) (s1 s2 : Int) (p : List Int) (hl : (l.length : Int) ≤ 1048576) (h0 : 0 ≤ s1) (hp : 0 < p.length) : ∃ r t1 t2, spec_l1PickInt.f l s1 s2 p = some (r, t1, t2) ∧ 0 ≤ t1 ∧ r ∈ p := by
  unfold spec_l1PickInt.f
  obtain ⟨r, t1, t2, e, h, hr, _⟩ := below_ok l s1 s2 (p.length : Int) hl h0
  obtain ⟨r0, r1⟩ := hr (by omega)
  rw [e]
  simp only [Option.bind_some]
  rw [if_pos r0, if_pos r1]
  exact ⟨_, _, _, rfl, h, List.mem_of_getElem? (rd_at p r r0 r1)⟩


theorem big_eq (l : List Int) : laws_big.f l = some (decide ((l.length : Int) > 1048576)) := rfl
theorem at_ok (l : List Int) (i : Int) (hl : (l.length : Int) ≤ 1048576) (hb : ∀ x ∈ l, 0 ≤ x ∧ x ≤ 255) (h0 : 0 ≤ i) (h1 : i ≤ 100000000) : ∃ b, laws_at.f l i = some b ∧ 0 ≤ b ∧ b ≤ 255 := by
  unfold laws_at.f
  by_cases c : i < (l.length : Int)
  · rw [if_pos c, if_pos h0]
    have hm := hb _ (List.mem_of_getElem? (rd_at l i h0 c))
    rw [w64 (by omega)]
    exact ⟨_, rfl, hm⟩
  · rw [if_neg c]
    refine ⟨_, rfl, ?_⟩
    rw [w64 (x := i * 7) (by omega), w64 (by omega), Int.tmod_eq_emod_of_nonneg (by omega)]
    omega
theorem u8_range {x : Int} (h : (Lit.int .u8 x).wf = true) : 0 ≤ x ∧ x ≤ 255 := by
  simp [Lit.wf, IntKind.min, IntKind.max, IntKind.signed, IntKind.bits] at h
  omega

theorem l9_loop (s : List Int) (hs : (s.length : Int) ≤ 1048576) (d : Nat) : ∀ (x : List S60) (i s1 s2 : Int), i ≤ d → (x.length : Int) + d ≤ 1000 → 0 ≤ s1 →
    ∃ R t1 t2, Ev (fun k => spec_l9Draw.l0 k x i s s1 s2) (R, t1, t2) ∧ 0 ≤ t1 ∧ (R.length : Int) ≤ x.length + d := by
  induction d with
  | zero =>
    intro x i s1 s2 hi hx h0
    refine ⟨x, s1, s2, Ev.step (f := fun _ => some (x, s1, s2)) (fun k => ?_) (Ev.now _), h0, by omega⟩
    simp only [spec_l9Draw.l0]
    rw [if_neg (by omega)]
  | succ d ih =>
    intro x i s1 s2 hi hx h0
    by_cases c : i > 0
    · have ei : wrap64 (i - 1) = i - 1 := w64 (by omega)
      obtain ⟨r1, a1, b1, e1, p1, _⟩ := below_ok s s1 s2 2 hs h0
      obtain ⟨r2, a2, b2, e2, p2, _⟩ := pick_ok s a1 b1 [0, 100, 28800, 64800, 86399, 50] hs p1 (by decide)
      obtain ⟨r3, a3, b3, e3, p3, _⟩ := pick_ok s a2 b2 [60, 30, 7, 180, 1000, 45] hs p2 (by decide)
      obtain ⟨r4, a4, b4, e4, p4, _⟩ := below_ok s a3 b3 30 hs p3
      obtain ⟨r5, a5, b5, e5, p5, _⟩ := below_ok s a4 b4 20 hs p4
      have hl2 : (((x ++ [(⟨r1, r2, r3, r4, r5⟩ : S60)] : List S60).length : Nat) : Int) ≤ 1048576 := by simp; omega
      have hT := tar_spec _ hl2
      have step : ∀ k, spec_l9Draw.l0 (k + 1) x i s s1 s2 = (spec_TariffsOk.f k (x ++ [(⟨r1, r2, r3, r4, r5⟩ : S60)])).bind fun t238 => if t238 = true then spec_l9Draw.l0 k (x ++ [(⟨r1, r2, r3, r4, r5⟩ : S60)]) (i - 1) s a5 b5 else spec_l9Draw.l0 k x (i - 1) s a5 b5 := by
        intro k
        simp only [spec_l9Draw.l0]
        rw [if_pos c]
        simp only [e1, e2, e3, e4, e5, Option.bind_some, List.nil_append, ei, List.length_nil, List.length_cons]
        rw [if_pos (by omega), if_pos (by omega)]
        simp only [if_pos (show x.length + (0 + 1) < 3518437208883 by omega)]
      cases hb : (tarOk [] (x ++ [(⟨r1, r2, r3, r4, r5⟩ : S60)]) && decide ((x ++ [(⟨r1, r2, r3, r4, r5⟩ : S60)]).length ≤ 40)) with
      | true =>
        rw [hb] at hT
        obtain ⟨R, t1, t2, hR, q0, q1⟩ := ih (x ++ [(⟨r1, r2, r3, r4, r5⟩ : S60)]) (i - 1) a5 b5 (by omega) (by simp; omega) p5
        refine ⟨R, t1, t2, Ev.step step (Ev.bind hT ?_), q0, by simp at q1; omega⟩
        simp only [if_true]
        exact hR
      | false =>
        rw [hb] at hT
        obtain ⟨R, t1, t2, hR, q0, q1⟩ := ih x (i - 1) a5 b5 (by omega) (by omega) p5
        refine ⟨R, t1, t2, Ev.step step (Ev.bind hT ?_), q0, by omega⟩
        simp only [Bool.false_eq_true, if_false]
        exact hR
    · refine ⟨x, s1, s2, Ev.step (f := fun _ => some (x, s1, s2)) (fun k => ?_) (Ev.now _), h0, by omega⟩
      simp only [spec_l9Draw.l0]
      rw [if_neg c]
theorem l9_draw (s : List Int) (hs : (s.length : Int) ≤ 1048576) (s1 s2 : Int) (h0 : 0 ≤ s1) : ∃ R t1 t2, Ev (fun k => spec_l9Draw.f k s s1 s2) (R, t1, t2) ∧ 0 ≤ t1 ∧ (R.length : Int) ≤ 7 := by
  obtain ⟨r1, a1, b1, e1, p1, hr, _⟩ := below_ok s s1 s2 7 hs h0
  have hr := hr (by omega)
  obtain ⟨R, t1, t2, hR, q0, q1⟩ := l9_loop s hs 7 [] r1 a1 b1 (by omega) (by simp) p1
  refine ⟨R, t1, t2, Ev.congr (fun k => ?_) hR, q0, by simpa using q1⟩
  unfold spec_l9Draw.f
  simp only [e1, Option.bind_some]
theorem l9_any (s : List Int) (hs : (s.length : Int) ≤ 1048576) (s1 s2 : Int) (h0 : 0 ≤ s1) : ∃ R t1 t2, Ev (fun k => spec_l9DrawAny.f k s s1 s2) (R, t1, t2) ∧ 0 ≤ t1 ∧ (R.length : Int) ≤ 7 := by
  obtain ⟨R, a1, b1, hR, p1, hl⟩ := l9_draw s hs s1 s2 h0
  have J : ∀ (b : Bool) (u1 u2 : Int), 0 ≤ u1 → (b = false → 0 < (R.length : Int)) → ∃ R' t1 t2, Ev (fun k => spec_l9DrawAny.j0 k R b s u1 u2) (R', t1, t2) ∧ 0 ≤ t1 ∧ (R'.length : Int) ≤ 7 := by
    intro b u1 u2 h1 hb
    cases b with
    | true => exact ⟨R, u1, u2, Ev.step (f := fun _ => some (R, u1, u2)) (fun k => by simp only [spec_l9DrawAny.j0, if_true]) (Ev.now _), h1, hl⟩
    | false =>
      have hpos := hb rfl
      obtain ⟨r2, a2, b2, e2, p2, hr2, _⟩ := below_ok s u1 u2 R.length hs h1
      have hr2 := hr2 hpos
      obtain ⟨r3, a3, b3, e3, p3, hr3, _⟩ := below_ok s a2 b2 5 hs p2
      obtain ⟨v1, c1, d1, f1, g1, _⟩ := pick_ok s a3 b3 [-1, 99, 100] hs p3 (by decide)
      obtain ⟨v2, c2, d2, f2, g2, _⟩ := pick_ok s a3 b3 [-1, 86400, 0] hs p3 (by decide)
      obtain ⟨v3, c3, d3, f3, g3, _⟩ := pick_ok s a3 b3 [0, 10000, 10001] hs p3 (by decide)
      obtain ⟨v4, c4, d4, f4, g4, _⟩ := pick_ok s a3 b3 [-1, 100000, 100001] hs p3 (by decide)
      have F : ∀ (R' : List S60) (t1 t2 : Int), (∀ k, spec_l9DrawAny.j0 (k + 1) R false s u1 u2 = some (R', t1, t2)) → 0 ≤ t1 → (R'.length : Int) ≤ 7 → ∃ R' t1 t2, Ev (fun k => spec_l9DrawAny.j0 k R false s u1 u2) (R', t1, t2) ∧ 0 ≤ t1 ∧ (R'.length : Int) ≤ 7 :=
        fun R' t1 t2 h q0 q1 => ⟨R', t1, t2, Ev.step (f := fun _ => some (R', t1, t2)) h (Ev.now _), q0, q1⟩
      by_cases k0 : r3 = 0
      · refine F _ c1 d1 (fun k => by simp only [spec_l9DrawAny.j0, Bool.false_eq_true, if_false, e2, e3, f1, Option.bind_some, if_pos hr2.1, if_pos hr2.2, if_pos k0]; rfl) g1 (by simpa using hl)
      · by_cases k1 : r3 = 1
        · refine F _ c2 d2 (fun k => by simp only [spec_l9DrawAny.j0, Bool.false_eq_true, if_false, e2, e3, f2, Option.bind_some, if_pos hr2.1, if_pos hr2.2, if_neg k0, if_pos k1]; rfl) g2 (by simpa using hl)
        · by_cases k2 : r3 = 2
          · refine F _ c3 d3 (fun k => by simp only [spec_l9DrawAny.j0, Bool.false_eq_true, if_false, e2, e3, f3, Option.bind_some, if_pos hr2.1, if_pos hr2.2, if_neg k0, if_neg k1, if_pos k2]; rfl) g3 (by simpa using hl)
          · by_cases k3 : r3 = 3
            · refine F _ c4 d4 (fun k => by simp only [spec_l9DrawAny.j0, Bool.false_eq_true, if_false, e2, e3, f4, Option.bind_some, if_pos hr2.1, if_pos hr2.2, if_neg k0, if_neg k1, if_neg k2, if_pos k3]; rfl) g4 (by simpa using hl)
            · by_cases k4 : r3 = 4
              · refine F _ c4 d4 (fun k => by simp only [spec_l9DrawAny.j0, Bool.false_eq_true, if_false, e2, e3, f4, Option.bind_some, if_pos hr2.1, if_pos hr2.2, if_neg k0, if_neg k1, if_neg k2, if_neg k3, if_pos k4]; rfl) g4 (by simpa using hl)
              · refine F _ a3 b3 (fun k => by simp only [spec_l9DrawAny.j0, Bool.false_eq_true, if_false, e2, e3, Option.bind_some, if_pos hr2.1, if_pos hr2.2, if_neg k0, if_neg k1, if_neg k2, if_neg k3, if_neg k4]) p3 hl
  by_cases c : (R.length : Int) = 0
  · obtain ⟨R', t1, t2, h, q0, q1⟩ := J true a1 b1 p1 (by simp)
    refine ⟨R', t1, t2, Ev.congr (f := fun k => (spec_l9Draw.f k s s1 s2).bind fun bt245 => (if (bt245.1.length : Int) = 0 then (spec_l9DrawAny.j0 k bt245.1 true s bt245.2.1 bt245.2.2) else ((spec_l1Once.f s bt245.2.1 bt245.2.2 15).bind fun bt250 => (spec_l9DrawAny.j0 k bt245.1 (!bt250.1) s bt250.2.1 bt250.2.2)))) (fun k => rfl) (Ev.bind hR ?_), q0, q1⟩
    simp only [if_pos c]
    exact h
  · obtain ⟨r, u1, u2, e, hu⟩ := once_ok s a1 b1 15 hs p1
    obtain ⟨R', t1, t2, h, q0, q1⟩ := J (!r) u1 u2 hu (fun _ => by omega)
    refine ⟨R', t1, t2, Ev.congr (f := fun k => (spec_l9Draw.f k s s1 s2).bind fun bt245 => (if (bt245.1.length : Int) = 0 then (spec_l9DrawAny.j0 k bt245.1 true s bt245.2.1 bt245.2.2) else ((spec_l1Once.f s bt245.2.1 bt245.2.2 15).bind fun bt250 => (spec_l9DrawAny.j0 k bt245.1 (!bt250.1) s bt250.2.1 bt250.2.2)))) (fun k => rfl) (Ev.bind hR ?_), q0, q1⟩
    simp only [if_neg c, e, Option.bind_some]
    exact h
theorem l9_begin (s : List Int) (hs : (s.length : Int) ≤ 1048576) (s1 s2 : Int) (h0 : 0 ≤ s1) : ∃ r t1 t2, Ev (fun k => spec_l9DrawBegin.f k s s1 s2) (r, t1, t2) ∧ 0 ≤ t1 := by
  obtain ⟨r1, a1, b1, e1, p1, _⟩ := below_ok s s1 s2 12 hs h0
  obtain ⟨v1, c1, d1, f1, g1, _⟩ := pick_ok s a1 b1 [-1, 0, 1000000000, 1000000001, 999999950] hs p1 (by decide)
  obtain ⟨v2, c2, d2, f2, g2, _⟩ := pick_ok s a1 b1 [86390, 28700, 64790, 259200] hs p1 (by decide)
  obtain ⟨v3, c3, d3, f3, g3, _⟩ := below_ok s c2 d2 20 hs g2
  obtain ⟨v4, c4, d4, f4, g4, _⟩ := below_ok s a1 b1 90000 hs p1
  have J : ∀ b : Bool, ∃ r t1 t2, Ev (fun k => spec_l9DrawBegin.j0 k b s a1 b1) (r, t1, t2) ∧ 0 ≤ t1 := by
    intro b
    cases b with
    | true => exact ⟨_, c3, d3, Ev.step (f := fun _ => some (wrap64 (v2 + v3), c3, d3)) (fun k => by simp only [spec_l9DrawBegin.j0, if_true, f2, f3, Option.bind_some]) (Ev.now _), g3⟩
    | false => exact ⟨_, c4, d4, Ev.step (f := fun _ => some (v4, c4, d4)) (fun k => by simp only [spec_l9DrawBegin.j0, Bool.false_eq_true, if_false, f4, Option.bind_some]) (Ev.now _), g4⟩
  by_cases k0 : r1 = 0
  · exact ⟨v1, c1, d1, Ev.congr (f := fun _ => some (v1, c1, d1)) (fun k => by simp only [spec_l9DrawBegin.f, e1, f1, Option.bind_some, if_pos k0]) (Ev.now _), g1⟩
  · by_cases k1 : r1 = 1
    · obtain ⟨r, t1, t2, h, q⟩ := J (r1 == 1)
      exact ⟨r, t1, t2, Ev.congr (fun k => by simp only [spec_l9DrawBegin.f, e1, Option.bind_some, if_neg k0, if_pos k1]) h, q⟩
    · by_cases k2 : r1 = 2
      · obtain ⟨r, t1, t2, h, q⟩ := J (r1 == 2)
        exact ⟨r, t1, t2, Ev.congr (fun k => by simp only [spec_l9DrawBegin.f, e1, Option.bind_some, if_neg k0, if_neg k1, if_pos k2]) h, q⟩
      · obtain ⟨r, t1, t2, h, q⟩ := J (r1 == 3)
        exact ⟨r, t1, t2, Ev.congr (fun k => by simp only [spec_l9DrawBegin.f, e1, Option.bind_some, if_neg k0, if_neg k1, if_neg k2]) h, q⟩

theorem reserve_draw (s : List Int) (hs : (s.length : Int) ≤ 1048576) : ∃ p0 p1 R z a m, Ev (fun k => spec_DrawReserve.f k s) (p0, p1, R, z, a, m) ∧ (R.length : Int) ≤ 7 := by
  obtain ⟨h, hN⟩ := new_ok s hs
  obtain ⟨r1, a1, b1, e1, p1, _⟩ := below_ok s 0 h 400 hs (by omega)
  obtain ⟨r2, a2, b2, e2, p2, _⟩ := below_ok s a1 b1 100 hs p1
  obtain ⟨r3, a3, b3, e3, p3⟩ := once_ok s a2 b2 30 hs p2
  obtain ⟨r4, a4, b4, e4, p4, _⟩ := pick_ok s a3 b3 [-1, 1000000000, 1000000001] hs p3 (by decide)
  have J : ∀ (u1 u2 q0 q1 : Int), 0 ≤ u1 → ∃ p0 p1 R z a m, Ev (fun k => spec_DrawReserve.j0 k s u1 u2 q0 q1) (p0, p1, R, z, a, m) ∧ (R.length : Int) ≤ 7 := by
    intro u1 u2 q0 q1 hu
    obtain ⟨R, c1, d1, hR, g1, hl⟩ := l9_any s hs u1 u2 hu
    obtain ⟨z, c2, d2, f2, g2, _⟩ := below_ok s c1 d1 3 hs g1
    obtain ⟨a, c3, d3, hA, g3⟩ := l9_begin s hs c2 d2 g2
    obtain ⟨m, c4, d4, f4, g4, _⟩ := pick_ok s c3 d3 [1, 30, 100, 600, 3000, 86400, 86401, 0, 1000] hs g3 (by decide)
    refine ⟨q0, q1, R, z, a, m, Ev.step (fun k => by simp only [spec_DrawReserve.j0]; rfl) (Ev.bind hR ?_), hl⟩
    simp only [f2, Option.bind_some]
    refine Ev.bind hA ?_
    simp only [f4, Option.bind_some]
    exact Ev.now _
  cases r3 with
  | true =>
    obtain ⟨p0, p1', R, z, a, m, hE, hl⟩ := J a4 b4 r4 r2 p4
    refine ⟨p0, p1', R, z, a, m, Ev.congr (fun k => by unfold spec_DrawReserve.f; rfl) (Ev.bind hN ?_), hl⟩
    simp only [e1, e2, e3, e4, Option.bind_some, if_true]
    exact hE
  | false =>
    obtain ⟨p0, p1', R, z, a, m, hE, hl⟩ := J a3 b3 r1 r2 p3
    refine ⟨p0, p1', R, z, a, m, Ev.congr (fun k => by unfold spec_DrawReserve.f; rfl) (Ev.bind hN ?_), hl⟩
    simp only [e1, e2, e3, Option.bind_some, Bool.false_eq_true, if_false]
    exact hE

theorem settle_ok (p0 p1 c x : Int) (hp : purseV p0 (p1 + c) = true) (h1 : 0 ≤ p1) (hc : 0 ≤ c) (hx : 0 ≤ x ∧ x ≤ c) : impl_SettleUp.f p0 (p1 + c) c x = some (p0 - x, p1, true) := by
  unfold impl_SettleUp.f
  simp only [purse_impl, hp, in_impl, Option.bind_some, if_true]
  have hp' := hp
  unfold purseV tickV at hp'
  simp only [Bool.and_eq_true, decide_eq_true_eq] at hp'
  rw [if_pos (by simp; omega), if_pos (by simp; omega), w64 (by omega), w64 (by omega)]
  congr 2
  congr 1
  omega
theorem rate_at (l : List S60) (zone a e : Int) (hv : tarV l = true) (ha : tickV a = true) (hz : 0 ≤ atV l zone a) (he : ticksV a e = true) :
    rateV l zone a e = ((rateFrom l zone e (e - a).toNat a 0 (rd_T60 l (atV l zone a)).f4).1, (rateFrom l zone e (e - a).toNat a 0 (rd_T60 l (atV l zone a)).f4).2, true) := by
  unfold rateV
  rw [if_pos (by simp [hv, ha, hz, he])]
theorem rate_off (l : List S60) (zone a e : Int) (he : ticksV a e = false) : rateV l zone a e = (0, 0, false) := by
  unfold rateV
  rw [if_neg (by simp [he])]
theorem FnReserved : SFnReserved.Pure := by
  intro s hs0
  apply Ev.rounds
  by_cases hb : (s.length : Int) > 1048576
  · refine Ev.congr (f := fun _ => some true) (fun k => ?_) (Ev.now _)
    simp [laws_FnReserved.f, big_eq, hb]
  have hs : (s.length : Int) ≤ 1048576 := by omega
  have hbytes : ∀ x ∈ s, 0 ≤ x ∧ x ≤ 255 := fun x hx => u8_range (hs0.1 x hx)
  obtain ⟨b, hat, hb0, hb1⟩ := at_ok s 1 hs hbytes (by omega) (by omega)
  obtain ⟨p0, p1, l, zone, a, most, hD, hl7⟩ := reserve_draw s hs
  have hl : (l.length : Int) ≤ 1048576 := by omega
  have hS := res_spec l hl p0 p1 zone a most
  have hI := res_impl l hl p0 p1 zone a most
  have hT := res_impl [(⟨0, 0, 10, 3, 1⟩ : S60)] (by simp) 10 0 0 0 100
  rw [show resV [(⟨0, 0, 10, 3, 1⟩ : S60)] 10 0 0 0 100 = (10, 10, 30, true) by decide +kernel] at hT
  -- behind the trial purse
  have J0 : ∀ (n q0 q1 : Int) (ok : Bool), Ev (fun k => laws_FnReserved.j1 k s l zone a most n ok false p0 p1 q0 q1) true → Ev (fun k => laws_FnReserved.j0 k s l zone a most n ok false p0 p1 q0 q1) true := by
    intro n q0 q1 ok h
    refine Ev.step (f := fun k => (impl_Reserve.f k 10 0 (([(⟨0, 0, 10, 3, 1⟩ : S60)] : List (S60))) 0 0 100).bind fun bt376 => (if bt376.2.2.2 = true then (if bt376.2.2.1 = 30 then (laws_FnReserved.j1 k s l zone a most n ok (bt376.2.1 != 10) p0 p1 q0 q1) else (laws_FnReserved.j1 k s l zone a most n ok true p0 p1 q0 q1)) else (laws_FnReserved.j1 k s l zone a most n ok true p0 p1 q0 q1))) (fun k => ?_) (Ev.bind hT ?_)
    · simp only [laws_FnReserved.j0, Bool.false_eq_true, if_false]
    · simp only [if_true, bne_self_eq_false]
      exact h
  have MAIN : Ev (fun k => laws_FnReserved.j1 k s l zone a most (resV l p0 p1 zone a most).2.2.1 (resV l p0 p1 zone a most).2.2.2 false p0 p1 (resV l p0 p1 zone a most).1 (resV l p0 p1 zone a most).2.1) true := by
    have OFF : Ev (fun k => laws_FnReserved.j1 k s l zone a most 0 false false p0 p1 p0 p1) true := by
      refine Ev.step (f := fun _ => some true) (fun k => ?_) (Ev.now _)
      simp [laws_FnReserved.j1]
    by_cases hc : (tarV l && tickV a && decide (0 ≤ atV l zone a) && purseV p0 p1 && (decide (1 ≤ most) && decide (most ≤ 86400))) = true
    · have e : resV l p0 p1 zone a most = outV p0 p1 a (mn most (1000000000 - a)) (buy l zone (wrap64 (p0 - p1)) (mn (a + most) 1000000000) (mn (a + most) 1000000000 - a).toNat (rd_T60 l (atV l zone a)).f4 a) := by unfold resV; rw [if_pos hc]
      rw [e]
      have hc' := hc
      simp only [Bool.and_eq_true, decide_eq_true_eq] at hc'
      obtain ⟨⟨⟨⟨hv, hta⟩, hza⟩, hpu⟩, hm1, hm2⟩ := hc'
      have ht := hta
      have hp := hpu
      unfold purseV tickV at hp
      unfold tickV at ht
      simp only [Bool.and_eq_true, decide_eq_true_eq] at ht hp
      have hroom : wrap64 (p0 - p1) = p0 - p1 := w64 (by omega)
      rw [hroom]
      have hz := atV_pos l zone a 0 hza
      have hM : mn (a + most) 1000000000 = a + mn most (1000000000 - a) := by unfold mn; split <;> split <;> omega
      have hM0 : 0 ≤ mn most (1000000000 - a) ∧ mn most (1000000000 - a) ≤ most ∧ mn most (1000000000 - a) ≤ 1000000000 - a ∧ (mn most (1000000000 - a) = most ∨ mn most (1000000000 - a) = 1000000000 - a) := by unfold mn; split <;> omega
      rw [hM]
      have h4 := (tarV_price hv (atV l zone a) hza (atV_lt l zone a).2).2
      have hfair : Fair a (rd_T60 l (atV l zone a)).f4 a := by unfold Fair; omega
      generalize hf4 : (rd_T60 l (atV l zone a)).f4 = f4 at *
      generalize hmm : mn most (1000000000 - a) = mm at *
      obtain ⟨B1, B2, B3, B4⟩ := buy_facts l hv zone (p0 - p1) a (a + mm) (by omega) hz (a + mm - a).toNat f4 a hfair (by omega) (by omega)
      have BR := fun D n h => buy_rate l hv zone (p0 - p1) a (a + mm) (by omega) hz (a + mm - a).toNat f4 a D n hfair (by omega) (by omega) h
      have BM := fun D n h1 h2 => buy_more l hv zone (p0 - p1) a (a + mm) (by omega) hz (a + mm - a).toNat f4 a D n hfair (by omega) (by omega) h1 h2
      generalize buy l zone (p0 - p1) (a + mm) (a + mm - a).toNat f4 a = X at *
      obtain ⟨C, T⟩ := X
      simp only at B1 B2 B3 B4 BR BM
      unfold outV
      simp only
      generalize hn : (if T - a > mm then mm else T - a) = n at *
      have hn' : n = mn (a + mm) T - a := by rw [← hn]; unfold mn; split <;> split <;> omega
      by_cases n1 : n < 1
      · rw [if_pos n1]; exact OFF
      · rw [if_neg n1]
        have hTa : a < T := by rw [← hn] at n1; split at n1 <;> omega
        have hC : C ≤ p0 - p1 := by rcases B3 with h | ⟨_, h⟩ <;> omega
        have hC0 : 0 ≤ C := by unfold Fair at B1; omega
        have hnm : n ≤ mm := by rw [← hn]; split <;> omega
        rw [w64 (x := p1 + C) (by omega)]
        have eC : wrap64 ((p1 + C) - p1) = C := by rw [w64 (by omega)]; omega
        have hpur : purseV p0 (p1 + C) = true := by unfold purseV tickV; simp only [Bool.and_eq_true, decide_eq_true_eq]; omega
        have tk : ∀ e', a ≤ e' → e' ≤ a + n → ticksV a e' = true := by intro e' q1 q2; unfold ticksV tickV; simp only [Bool.and_eq_true, decide_eq_true_eq]; omega
        have hRn : rateV l zone a (a + n) = ((rateFrom l zone (a + n) (a + n - a).toNat a 0 f4).1, C, true) := by
          rw [rate_at l zone a (a + n) hv hta hza (tk _ (by omega) (by omega)), hf4]
          have := BR (a + n - a).toNat 0 (by rw [← show a + n = mn (a + mm) T by omega]; omega)
          rw [← show a + n = mn (a + mm) T by omega] at this
          rw [this]
        -- any call no longer than bought
        have hmod : 0 ≤ Int.tmod b (n + 1) ∧ Int.tmod b (n + 1) ≤ n := by
          rw [Int.tmod_eq_emod_of_nonneg hb0]
          have h1 := Int.emod_nonneg b (show n + 1 ≠ 0 by omega)
          have h2 := Int.emod_lt_of_pos b (show 0 < n + 1 by omega)
          omega
        have hRe := rate_at l zone a (a + Int.tmod b (n + 1)) hv hta hza (tk _ (by omega) (by omega))
        rw [hf4] at hRe
        have hx0 := rate_ge l hv zone a (a + Int.tmod b (n + 1)) (by omega) hz (a + Int.tmod b (n + 1) - a).toNat f4 a 0 hfair
        have hx1 := rate_mono l hv zone a (a + Int.tmod b (n + 1)) (a + n) (by omega) (by omega) hz (a + Int.tmod b (n + 1) - a).toNat (a + n - a).toNat f4 a 0 0 hfair (by omega)
        have hx2 : (rateFrom l zone (a + n) (a + n - a).toNat a 0 f4).2 = C := by
          have := BR (a + n - a).toNat 0 (by rw [← show a + n = mn (a + mm) T by omega]; omega)
          rw [← show a + n = mn (a + mm) T by omega] at this
          exact this
        rw [hx2] at hx1
        generalize hx : (rateFrom l zone (a + Int.tmod b (n + 1)) (a + Int.tmod b (n + 1) - a).toNat a 0 f4) = RX at hRe hx0 hx1
        have hset := settle_ok p0 p1 C RX.2 hpur (by omega) hC0 (by omega)
        have TAIL : Ev (fun k => (laws_at.f s 1).bind fun t389 => (if (wrap64 (n + 1)) = 0 then (none) else ((impl_Rate.f k l zone a (wrap64 (a + (Int.tmod t389 (wrap64 (n + 1)))))).bind fun bt390 => ((impl_SettleUp.f p0 (p1 + C) C bt390.2.1).bind fun bt394 => (if bt390.2.2 = true then (if bt394.2.2 = true then (if bt390.2.1 ≤ C then (if bt394.2.1 = p1 then (if bt394.1 = (wrap64 (p0 - bt390.2.1)) then (some (decide (bt394.1 ≥ bt394.2.1))) else (some false)) else (some false)) else (some false)) else (some false)) else (some false)))))) true := by
          have en : wrap64 (n + 1) = n + 1 := w64 (by omega)
          simp only [hat, Option.bind_some, en, if_neg (show ¬ n + 1 = 0 by omega)]
          rw [w64 (x := a + Int.tmod b (n + 1)) (by omega)]
          have hI2 := rate_impl l hl zone a (a + Int.tmod b (n + 1))
          rw [hRe] at hI2
          refine Ev.bind hI2 ?_
          simp only [hset, Option.bind_some, if_true]
          rw [w64 (x := p0 - RX.2) (by omega), if_pos (by omega), if_pos rfl]
          have : decide (p0 - RX.2 ≥ p1) = true := decide_eq_true (by omega)
          rw [this]
          exact Ev.now _
        have J3 : Ev (fun k => laws_FnReserved.j3 k s l zone a n C false p0 p1 p0 (p1 + C)) true := by
          refine Ev.step (fun k => ?_) TAIL
          simp only [laws_FnReserved.j3, Bool.false_eq_true, if_false]
        have J2 : Ev (fun k => laws_FnReserved.j2 k s l zone a most n C false p0 p1 p0 (p1 + C)) true := by
          by_cases q : n < most
          · refine Ev.step (f := fun k => (impl_Rate.f k l zone a (wrap64 ((wrap64 (a + n)) + 1))).bind fun bt385 => (if bt385.2.2 = true then (laws_FnReserved.j3 k s l zone a n C (decide (bt385.2.1 ≤ (wrap64 (p0 - p1)))) p0 p1 p0 (p1 + C)) else (laws_FnReserved.j3 k s l zone a n C false p0 p1 p0 (p1 + C)))) (fun k => ?_) ?_
            · simp only [laws_FnReserved.j2, Bool.false_eq_true, if_false]
              rw [if_pos q]
            · rw [w64 (x := a + n) (by omega), w64 (x := a + n + 1) (by omega), hroom]
              refine Ev.bind (rate_impl l hl zone a (a + n + 1)) ?_
              cases ht1 : ticksV a (a + n + 1) with
              | false =>
                rw [rate_off l zone a (a + n + 1) ht1]
                simp only [Bool.false_eq_true, if_false]
                exact J3
              | true =>
                rw [rate_at l zone a (a + n + 1) hv hta hza ht1, hf4]
                have ht2 := ht1
                unfold ticksV tickV at ht2
                simp only [Bool.and_eq_true, decide_eq_true_eq] at ht2
                have hTm : T < a + mm ∧ n = T - a := by rw [← hn] at q ht2 ⊢; split <;> rename_i hq <;> (try rw [if_pos hq] at q ht2) <;> (try rw [if_neg hq] at q ht2) <;> omega
                have hmore := BM (a + n + 1 - a).toNat 0 hTm.1 (by omega)
                rw [show T + 1 = a + n + 1 by omega] at hmore
                simp only [if_true]
                rw [decide_eq_false (by omega)]
                exact J3
          · refine Ev.step (fun k => ?_) TAIL
            simp only [laws_FnReserved.j2, Bool.false_eq_true, if_false]
            rw [if_neg q]
        refine Ev.step (f := fun k => (impl_Rate.f k l zone a (wrap64 (a + n))).bind fun bt381 => (if bt381.2.2 = true then (if bt381.2.1 = (wrap64 ((p1 + C) - p1)) then (if p0 = p0 then (laws_FnReserved.j2 k s l zone a most n (wrap64 ((p1 + C) - p1)) (decide ((p1 + C) > p0)) p0 p1 p0 (p1 + C)) else (laws_FnReserved.j2 k s l zone a most n (wrap64 ((p1 + C) - p1)) true p0 p1 p0 (p1 + C))) else (laws_FnReserved.j2 k s l zone a most n (wrap64 ((p1 + C) - p1)) true p0 p1 p0 (p1 + C))) else (laws_FnReserved.j2 k s l zone a most n (wrap64 ((p1 + C) - p1)) true p0 p1 p0 (p1 + C)))) (fun k => ?_) ?_
        · simp only [laws_FnReserved.j1, Bool.false_eq_true, if_false, if_true]
        · rw [eC, w64 (x := a + n) (by omega)]
          have hI2 := rate_impl l hl zone a (a + n)
          rw [hRn] at hI2
          refine Ev.bind hI2 ?_
          simp only [if_true]
          rw [decide_eq_false (by omega)]
          exact J2
    · have e : resV l p0 p1 zone a most = (p0, p1, 0, false) := by unfold resV; rw [if_neg hc]
      rw [e]
      exact OFF
  refine Ev.congr (f := fun k => (spec_DrawReserve.f k s).bind fun bt354 => ((impl_Reserve.f k bt354.1 bt354.2.1 bt354.2.2.1 bt354.2.2.2.1 bt354.2.2.2.2.1 bt354.2.2.2.2.2).bind fun bt363 => ((spec_Reserve.f k bt354.1 bt354.2.1 bt354.2.2.1 bt354.2.2.2.1 bt354.2.2.2.2.1 bt354.2.2.2.2.2).bind fun bt368 => (if (bt363.2.2.2 != bt368.2.2.2) = true then (laws_FnReserved.j0 k s bt354.2.2.1 bt354.2.2.2.1 bt354.2.2.2.2.1 bt354.2.2.2.2.2 bt363.2.2.1 bt363.2.2.2 true bt354.1 bt354.2.1 bt363.1 bt363.2.1) else (laws_FnReserved.j0 k s bt354.2.2.1 bt354.2.2.2.1 bt354.2.2.2.2.1 bt354.2.2.2.2.2 bt363.2.2.1 bt363.2.2.2 (bt363.2.2.1 != bt368.2.2.1) bt354.1 bt354.2.1 bt363.1 bt363.2.1))))) (fun k => ?_) ?_
  · unfold laws_FnReserved.f
    simp only [big_eq, decide_eq_false hb, Option.bind_some, Bool.false_eq_true, if_false]
  · refine Ev.bind hD (Ev.bind hI (Ev.bind hS ?_))
    simp only [bne_self_eq_false, Bool.false_eq_true, if_false]
    exact J0 _ _ _ _ MAIN

end Go.Proofs.Ytodehmbgcncnhaa.Pure
