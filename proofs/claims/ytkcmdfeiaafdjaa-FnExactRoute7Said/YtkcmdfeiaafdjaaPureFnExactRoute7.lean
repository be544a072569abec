/- The program routes every call as the reference does, and leaves the subs as they were. No condition. -/
import Derived.Test.YtkcmdfeiaafdjaaSFnExactRoute7
set_option linter.unusedVariables false
set_option linter.unusedSimpArgs false
namespace Go.Proofs.Ytkcmdfeiaafdjaa.Pure
open Go.RowKit Go.Proofs.Ytkcmdfeiaafdjaa.PFnExactRoute7 Go.Proofs.Ytkcmdfeiaafdjaa.SFnExactRoute7 Go.Proofs.YtkcmdfeiaafdjaaW.PrintWords Go.Proofs.YtkcmdfeiaafdjaaW.PrintLast Go.Proofs.YtkcmdfeiaafdjaaW.PrintMore
theorem w64 {x : Int} (h : -9000000000000000000 ≤ x ∧ x ≤ 9000000000000000000) : wrap64 x = x := by unfold wrap64; omega
theorem rd_at (l : List Int) (i : Int) (h0 : 0 ≤ i) (h1 : i < l.length) : l[i.toNat]? = some (rd l i) := by
 simp [rd, List.getD_eq_getElem?_getD, List.getElem?_eq_getElem (show i.toNat < l.length by omega)]

theorem gen_to {α β : Type} (l : List α) (hl : (l.length : Int) ≤ 1048576) (F : Nat → List β → Int → Option (List β)) (g : Int → β)
  (hF : ∀ k m i, 0 ≤ i → i < (l.length : Int) → i < (m.length : Int) → F (k + 1) m i = F k (m.set i.toNat (g i)) (wrap64 (i + 1))) (hE : ∀ k m i, ¬ i < (l.length : Int) → F (k + 1) m i = some m)
  (G : α → β) (hg : ∀ (i : Nat) (h : i < l.length), g i = G l[i]) (d : Nat) : ∀ (i : Int) (m : List β), 0 ≤ i → i ≤ l.length → (l.length : Int) - i = d → m.length = l.length →
  (∀ j : Nat, (j : Int) < i → m[j]? = (l.map G)[j]?) → Ev (fun k => F k m i) (l.map G) := by
 induction d with
 | zero =>
  intro i m h0 h1 hd hm hp
  refine Ev.step (f := fun _ => some (l.map G)) (fun k => ?_) (Ev.now _)
  rw [hE k m i (by omega)]
  congr 1
  apply List.ext_getElem?
  intro j
  by_cases hj : j < l.length
  ·exact hp j (by omega)
  ·rw [List.getElem?_eq_none (by omega), List.getElem?_eq_none (by simp; omega)]
 | succ d ih =>
  intro i m h0 h1 hd hm hp
  have ei : wrap64 (i + 1) = i + 1 := w64 (by omega)
  refine Ev.step (fun k => ?_) (ih (i + 1) (m.set i.toNat (g i)) (by omega) (by omega) (by omega) (by simpa using hm) ?_)
  ·rw [hF k m i h0 (by omega) (by omega), ei]
  ·intro j hj
   by_cases e : j = i.toNat
   ·subst e
    rw [List.getElem?_set_self (by omega), List.getElem?_map, List.getElem?_eq_getElem (show i.toNat < l.length by omega)]
    have := hg i.toNat (by omega)
    rw [Int.toNat_of_nonneg h0] at this
    rw [this]
    rfl
   ·rw [List.getElem?_set_ne (by omega)]
    exact hp j (by omega)
theorem gen_eq {n : Nat} (hl : (n : Int) ≤ 1048576) (F : Nat → Int → Option Bool) (hF : ∀ k i, 0 ≤ i → i < (n : Int) → F (k + 1) i = F k (wrap64 (i + 1))) (hE : ∀ k i, ¬ i < (n : Int) → F (k + 1) i = some true)
  (d : Nat) : ∀ (i : Int), 0 ≤ i → i ≤ n → (n : Int) - i = d → Ev (fun k => F k i) true := by
 induction d with
 | zero =>
  intro i h0 h1 hd
  exact Ev.step (f := fun _ => some true) (fun k => hE k i (by omega)) (Ev.now _)
 | succ d ih =>
  intro i h0 h1 hd
  have ei : wrap64 (i + 1) = i + 1 := w64 (by omega)
  refine Ev.step (fun k => ?_) (ih (i + 1) (by omega) (by omega) (by omega))
  rw [hF k i h0 (by omega), ei]
theorem getD_at {α : Type} (l : List α) (z : α) (i : Nat) (h : i < l.length) : l.getD i z = l[i] := by simp [List.getD_eq_getElem?_getD, h]

theorem eq_loop (l : List Int) (hl : (l.length : Int) ≤ 1048576) (d : Nat) : ∀ (i : Int), 0 ≤ i → i ≤ l.length → (l.length : Int) - i = d → Ev (fun k => laws_eqIntS.l0 k l l i) true := by
 induction d with
 | zero =>
  intro i h0 h1 hd
  refine Ev.step (f := fun _ => some true) (fun k => ?_) (Ev.now _)
  simp only [laws_eqIntS.l0]
  rw [if_neg (by omega)]
 | succ d ih =>
  intro i h0 h1 hd
  have ei : wrap64 (i + 1) = i + 1 := w64 (by omega)
  have hlt : i < (l.length : Int) := by omega
  refine Ev.step (fun k => ?_) (ih (i + 1) (by omega) (by omega) (by omega))
  simp only [laws_eqIntS.l0, if_pos hlt, if_pos h0, ei, if_true]
theorem eq_ev (l : List Int) (hl : (l.length : Int) ≤ 1048576) : Ev (fun k => laws_eqIntS.f k l l) true := by
 refine Ev.congr (fun k => ?_) (eq_loop l hl l.length 0 (by omega) (by omega) (by omega))
 unfold laws_eqIntS.f
 rw [if_pos rfl]

def markL (l : List Int) (q : Int) : List Int := (List.range l.length).map fun (i : Nat) => q + (i : Int)
theorem markL_length (l : List Int) (q : Int) : (markL l q).length = l.length := by simp [markL]
theorem markL_at (l : List Int) (q : Int) (j : Nat) (h : j < l.length) : (markL l q)[j]? = some (q + (j : Int)) := by simp [markL, h]
theorem mark_loop (l : List Int) (q : Int) (hl : (l.length : Int) ≤ 1048576) (hq : 0 ≤ q ∧ q ≤ 1000000000000) (d : Nat) : ∀ (i : Int) (m : List Int), 0 ≤ i → i ≤ l.length → (l.length : Int) - i = d → m.length = l.length →
  (∀ j : Nat, (j : Int) < i → m[j]? = some (q + j)) → Ev (fun k => laws_markIntS.l0 k m (q + i) i) (q + l.length, markL l q) := by
 induction d with
 | zero =>
  intro i m h0 h1 hd hm hp
  refine Ev.step (f := fun _ => some (q + l.length, markL l q)) (fun k => ?_) (Ev.now _)
  simp only [laws_markIntS.l0]
  rw [if_neg (by omega)]
  have e1 : q + i = q + l.length := by omega
  have e2 : m = markL l q := by
   apply List.ext_getElem?
   intro j
   by_cases hj : j < l.length
   ·rw [hp j (by omega), markL_at l q j hj]
   ·rw [List.getElem?_eq_none (by omega), List.getElem?_eq_none (by rw [markL_length]; omega)]
  rw [e1, e2]
 | succ d ih =>
  intro i m h0 h1 hd hm hp
  have ei : wrap64 (i + 1) = i + 1 := w64 (by omega)
  have eq : wrap64 (q + i + 1) = q + (i + 1) := by rw [w64 (by omega)]; omega
  refine Ev.step (fun k => ?_) (ih (i + 1) (m.set i.toNat (q + i)) (by omega) (by omega) (by omega) (by simpa using hm) ?_)
  ·simp only [laws_markIntS.l0]
   rw [if_pos (by omega), if_pos h0, ei, eq]
  ·intro j hj
   by_cases e : j = i.toNat
   ·subst e
    rw [List.getElem?_set_self (by omega)]
    congr 1
    omega
   ·rw [List.getElem?_set_ne (by omega)]
    exact hp j (by omega)
theorem mark_ev (l : List Int) (q : Int) (hl : (l.length : Int) ≤ 1048576) (hq : 0 ≤ q ∧ q ≤ 1000000000000) : Ev (fun k => laws_markIntS.f k l q) (q + l.length, markL l q) := by
 have h := mark_loop l q hl hq l.length 0 l (by omega) (by omega) (by omega) rfl (fun j hj => by omega)
 refine Ev.congr (fun k => ?_) h
 unfold laws_markIntS.f
 rw [Int.add_zero]
theorem held_loop (l : List Int) (q : Int) (hl : (l.length : Int) ≤ 1048576) (hq : 0 ≤ q ∧ q ≤ 1000000000000) (d : Nat) : ∀ (i : Int), 0 ≤ i → i ≤ l.length → (l.length : Int) - i = d →
  Ev (fun k => laws_heldIntS.l0 k (markL l q) (q + i) i) (q + l.length) := by
 induction d with
 | zero =>
  intro i h0 h1 hd
  refine Ev.step (f := fun _ => some (q + l.length)) (fun k => ?_) (Ev.now _)
  simp only [laws_heldIntS.l0, markL_length]
  rw [if_neg (by omega)]
  congr 1
  omega
 | succ d ih =>
  intro i h0 h1 hd
  have ei : wrap64 (i + 1) = i + 1 := w64 (by omega)
  have eq : wrap64 (q + i + 1) = q + (i + 1) := by rw [w64 (by omega)]; omega
  have er : rd (markL l q) i = q + i := by
   have h := rd_at (markL l q) i h0 (by rw [markL_length]; omega)
   rw [markL_at l q i.toNat (by omega)] at h
   have := Option.some.inj h
   omega
  refine Ev.step (fun k => ?_) (ih (i + 1) (by omega) (by omega) (by omega))
  simp only [laws_heldIntS.l0, markL_length]
  rw [if_pos (by omega), if_pos h0, er, if_pos rfl, ei, eq]
theorem held_ev (l : List Int) (q : Int) (hl : (l.length : Int) ≤ 1048576) (hq : 0 ≤ q ∧ q ≤ 1000000000000) : Ev (fun k => laws_heldIntS.f k (markL l q) q) (q + l.length) := by
 have h := held_loop l q hl hq l.length 0 (by omega) (by omega) (by omega)
 refine Ev.congr (fun k => ?_) h
 unfold laws_heldIntS.f
 rw [Int.add_zero]

/-! subs: what they are made of -/
def toF (x : S106) : S45 := ⟨x.f0, x.f1⟩
def toB (s : S61) : S43 := ⟨s.f0, s.f1, s.f2.map toF⟩
theorem feat_to (l : List S106) (hl : (l.length : Int) ≤ 1048576) : Ev (fun k => laws_toFeatureS.f k l) (l.map toF) := by
 have h := gen_to l hl (fun k m i => laws_toFeatureS.l0 k l m i) (fun i => ⟨(rd_T106 l i).f0, (rd_T106 l i).f1⟩)
  (fun k m i h0 h1 h2 => by simp only [laws_toFeatureS.l0, laws_toFeature.f]; rw [if_pos h1, if_pos h0, Option.bind_some, if_pos h2])
  (fun k m i h => by simp only [laws_toFeatureS.l0]; rw [if_neg h]) toF
  (fun i h => by simp only [rd_T106, Int.toNat_natCast]; rw [getD_at _ _ _ h]; rfl)
  l.length 0 (List.replicate l.length z45) (by omega) (by omega) (by omega) (by simp) (fun j hj => by omega)
 refine Ev.congr (fun k => ?_) h
 unfold laws_toFeatureS.f
 rw [if_pos (by omega), if_pos (by omega)]
 rfl
def tot (l : List S61) : Int := (l.map fun s => (s.f2.length : Int)).sum
theorem tot_nn : ∀ l, 0 ≤ tot l
 | [] => by simp [tot]
 | s :: r => by
  have := tot_nn r
  simp only [tot, List.map_cons, List.sum_cons] at this ⊢
  omega
theorem tot_drop (l : List S61) (i : Nat) (h : i < l.length) : tot (l.drop i) = (l[i].f2.length : Int) + tot (l.drop (i + 1)) := by
 rw [List.drop_eq_getElem_cons h]
 simp only [tot, List.map_cons, List.sum_cons]
theorem tot_mem {l : List S61} {s : S61} (h : s ∈ l) : (s.f2.length : Int) ≤ tot l := by
 induction l with
 | nil => cases h
 | cons a r ih =>
  have e : tot (a :: r) = (a.f2.length : Int) + tot r := by simp [tot]
  have := tot_nn r
  rcases List.mem_cons.mp h with rfl | h
  ·omega
  ·have := ih h
   omega
theorem rd61 (l : List S61) (i : Nat) (h : i < l.length) : rd_T61 l (i : Int) = l[i] := by simp only [rd_T61, Int.toNat_natCast]; exact getD_at _ _ _ h
theorem rd43 (l : List S43) (i : Nat) (h : i < l.length) : rd_T43 l (i : Int) = l[i] := by simp only [rd_T43, Int.toNat_natCast]; exact getD_at _ _ _ h
theorem rd45 (l : List S45) (i : Nat) (h : i < l.length) : rd_T45 l (i : Int) = l[i] := by simp only [rd_T45, Int.toNat_natCast]; exact getD_at _ _ _ h
theorem nxt {i : Nat} (h : (i : Int) ≤ 1048576) : wrap64 ((i : Int) + 1) = ((i + 1 : Nat) : Int) := by rw [w64 (by omega)]; omega
theorem sz_loop (l : List S61) (hw : ∀ s ∈ l, (s.f2.length : Int) ≤ 9223372036854775807) (hl : (l.length : Int) ≤ 1048576) (d : Nat) : ∀ (i : Nat) (left : Int), i ≤ l.length → l.length - i = d → 0 ≤ left → left ≤ 1048576 →
  ∃ t, Ev (fun k => laws_szSubS.l0 k l left i) t ∧ (t < 0 ∨ tot (l.drop i) ≤ left) := by
 induction d with
 | zero =>
  intro i left h1 hd h2 h3
  refine ⟨left, Ev.step (f := fun _ => some left) (fun k => ?_) (Ev.now _), .inr ?_⟩
  ·simp only [laws_szSubS.l0]
   rw [if_neg (by omega)]
  ·rw [List.drop_eq_nil_of_le (by omega)]
   simpa [tot] using h2
 | succ d ih =>
  intro i left h1 hd h2 h3
  have hi : i < l.length := by omega
  have hm := hw l[i] (List.getElem_mem hi)
  have e1 : wrap64 (left - (l[i].f2.length : Int)) = left - (l[i].f2.length : Int) := by unfold wrap64; omega
  by_cases c : left - (l[i].f2.length : Int) < 0
  ·refine ⟨-1, Ev.step (f := fun _ => some (-1)) (fun k => ?_) (Ev.now _), .inl (by decide)⟩
   simp only [laws_szSubS.l0, laws_szSub.f, laws_szFeatureS.f]
   rw [if_pos (by omega), if_pos (by omega), rd61 l i hi, e1, if_pos c, Option.bind_some, if_pos (by decide), Option.bind_some, if_pos (by decide)]
  ·obtain ⟨t, ht, h⟩ := ih (i + 1) (left - (l[i].f2.length : Int)) (by omega) (by omega) (by omega) (by omega)
   refine ⟨t, Ev.step (fun k => ?_) ht, ?_⟩
   ·simp only [laws_szSubS.l0, laws_szSub.f, laws_szFeatureS.f]
    rw [if_pos (by omega), if_pos (by omega), rd61 l i hi, e1, if_neg c, Option.bind_some, if_neg c, Option.bind_some, if_neg c, nxt (by omega)]
   ·rw [tot_drop l i hi]
    omega
theorem sz_subs (l : List S61) (hw : (∀ y ∈ l, wf61 y) ∧ l.length ≤ maxLen) : ∃ t, Ev (fun k => laws_szSubS.f k l 1048576) t ∧ (t < 0 ∨ ((l.length : Int) + tot l ≤ 1048576)) := by
 have hm : (l.length : Int) ≤ 9223372036854775807 := by have := hw.2; simp only [maxLen] at this; omega
 have e1 : wrap64 (1048576 - (l.length : Int)) = 1048576 - (l.length : Int) := by unfold wrap64; omega
 by_cases c : 1048576 - (l.length : Int) < 0
 ·refine ⟨-1, Ev.congr (f := fun _ => some (-1)) (fun k => ?_) (Ev.now _), .inl (by decide)⟩
  simp only [laws_szSubS.f]
  rw [e1, if_pos c]
 ·obtain ⟨t, ht, h⟩ := sz_loop l (fun s hs => by have := (hw.1 s hs).2.2.2; simp only [maxLen] at this; omega) (by omega) l.length 0 (1048576 - (l.length : Int)) (by omega) (by omega) (by omega) (by omega)
  refine ⟨t, Ev.congr (fun k => ?_) ht, ?_⟩
  ·simp only [laws_szSubS.f]
   rw [e1, if_neg c]
   rfl
  ·rw [List.drop_zero] at h
   omega
theorem subs_to (l : List S61) (hl : (l.length : Int) + tot l ≤ 1048576) : Ev (fun k => laws_toSubS.f k l) (l.map toB) := by
 have ht := tot_nn l
 have hB : ∀ (d i : Nat) (m : List S43), i ≤ l.length → l.length - i = d → m.length = l.length → (∀ j : Nat, j < i → m[j]? = (l.map toB)[j]?) → Ev (fun k => laws_toSubS.l0 k l m i) (l.map toB) := by
  intro d
  induction d with
  | zero =>
   intro i m h1 hd hm hp
   refine Ev.step (f := fun _ => some (l.map toB)) (fun k => ?_) (Ev.now _)
   simp only [laws_toSubS.l0]
   rw [if_neg (by omega)]
   congr 1
   apply List.ext_getElem?
   intro j
   by_cases hj : j < l.length
   ·exact hp j (by omega)
   ·rw [List.getElem?_eq_none (by omega), List.getElem?_eq_none (by simp; omega)]
  | succ d ih =>
   intro i m h1 hd hm hp
   have hi : i < l.length := by omega
   have hf := tot_mem (List.getElem_mem hi)
   have hF := feat_to l[i].f2 (by omega)
   have hS : Ev (fun k => laws_toSub.f k l[i].f0 l[i].f1 l[i].f2) (l[i].f0, l[i].f1, l[i].f2.map toF) := Ev.bind hF (Ev.now _)
   refine Ev.step (f := fun k => (laws_toSub.f k l[i].f0 l[i].f1 l[i].f2).bind fun b => laws_toSubS.l0 k l (m.set i ⟨b.1, b.2.1, b.2.2⟩) ((i + 1 : Nat) : Int)) (fun k => ?_) (Ev.bind hS ?_)
   ·simp only [laws_toSubS.l0]
    rw [if_pos (by omega), if_pos (by omega), rd61 l i hi, nxt (by omega)]
    simp only [if_pos (show (i : Int) < (m.length : Int) by omega), Int.toNat_natCast]
   ·refine ih (i + 1) _ (by omega) (by omega) (by simpa using hm) (fun j hj => ?_)
    by_cases e : j = i
    ·subst e
     rw [List.getElem?_set_self (by omega), List.getElem?_map, List.getElem?_eq_getElem hi]
     rfl
    ·rw [List.getElem?_set_ne (by omega)]
     exact hp j (by omega)
 refine Ev.congr (fun k => ?_) (hB l.length 0 (List.replicate l.length z43) (by omega) (by omega) (by simp) (fun j hj => by omega))
 unfold laws_toSubS.f
 rw [if_pos (by omega), if_pos (by omega)]
 rfl
theorem feat_eq (l : List S45) (hl : (l.length : Int) ≤ 1048576) : Ev (fun k => laws_eqFeatureS.f k l l) true := by
 refine Ev.congr (fun k => ?_) (gen_eq (n := l.length) hl (fun k i => laws_eqFeatureS.l0 k l l i) (fun k i h0 h1 => ?_) (fun k i h => ?_) l.length 0 (by omega) (by omega) (by omega))
 ·unfold laws_eqFeatureS.f
  rw [if_pos rfl]
 ·simp only [laws_eqFeatureS.l0, laws_eqFeature.f, if_pos h1, if_pos h0, if_true, Option.bind_some]
 ·simp only [laws_eqFeatureS.l0]
  rw [if_neg h]
theorem subs_eq (l : List S43) (hl : (l.length : Int) ≤ 1048576) (hf : ∀ s ∈ l, (s.f2.length : Int) ≤ 1048576) : Ev (fun k => laws_eqSubS.f k l l) true := by
 have hB : ∀ (d i : Nat), i ≤ l.length → l.length - i = d → Ev (fun k => laws_eqSubS.l0 k l l i) true := by
  intro d
  induction d with
  | zero =>
   intro i h1 hd
   refine Ev.step (f := fun _ => some true) (fun k => ?_) (Ev.now _)
   simp only [laws_eqSubS.l0]
   rw [if_neg (by omega)]
  | succ d ih =>
   intro i h1 hd
   have hi : i < l.length := by omega
   have hE : Ev (fun k => laws_eqSub.f k l[i].f0 l[i].f1 l[i].f2 l[i].f0 l[i].f1 l[i].f2) true := by
    unfold laws_eqSub.f
    simp only [bne_self_eq_false, Bool.false_eq_true, if_false]
    refine Ev.bind (feat_eq _ (hf _ (List.getElem_mem hi))) ?_
    simp only [if_true]
    exact Ev.now _
   refine Ev.step (f := fun k => (laws_eqSub.f k l[i].f0 l[i].f1 l[i].f2 l[i].f0 l[i].f1 l[i].f2).bind fun t => if t = true then laws_eqSubS.l0 k l l ((i + 1 : Nat) : Int) else some false) (fun k => ?_) (Ev.bind hE ?_)
   ·simp only [laws_eqSubS.l0]
    rw [if_pos (by omega), if_pos (by omega), if_pos (by omega), rd43 l i hi, nxt (by omega)]
   ·simp only [if_true]
    exact ih (i + 1) (by omega) (by omega)
 refine Ev.congr (fun k => ?_) (hB l.length 0 (by omega) (by omega))
 unfold laws_eqSubS.f
 rw [if_pos rfl]
 rfl
theorem sum_map : ∀ l : List S61, laws_markSubS.sum (l.map toB) = 2 * (l.length : Int) + 2 * tot l
 | [] => by simp [laws_markSubS.sum, tot]
 | s :: r => by
  have e : tot (s :: r) = (s.f2.length : Int) + tot r := by simp [tot]
  have := sum_map r
  simp only [List.map_cons, laws_markSubS.sum, List.length_cons, toB, List.length_map]
  omega

/-! a sub's features: right ones, no two alike -/
def pts (k : Int) : Bool := k == 1 || k == 2 || k == 3 || k == 5
theorem pts_ev (k : Int) : spec_l7Points.f k = some (pts k) := by
 unfold spec_l7Points.f pts
 by_cases h1 : k = 1
 ·simp [h1]
 by_cases h2 : k = 2
 ·simp [h2]
 by_cases h3 : k = 3
 ·simp [h3]
 rw [if_neg h1, if_neg h2, if_neg h3]
 simp [h1, h2, h3]
theorem lin (a b c : Int) : spec_l1In.f a b c = some (decide (b ≤ a) && decide (a ≤ c)) := by
 unfold spec_l1In.f
 by_cases h : a ≥ b
 ·rw [if_pos h]
  simp [show b ≤ a from h]
 ·rw [if_neg h]
  simp [show ¬ b ≤ a from h]
theorem iin (a b c : Int) : impl_in.f a b c = some (decide (b ≤ a) && decide (a ≤ c)) := by
 unfold impl_in.f
 by_cases h : a ≥ b
 ·rw [if_pos h]
  simp [show b ≤ a from h]
 ·rw [if_neg h]
  simp [show ¬ b ≤ a from h]
def fok (n : Int) (f : S45) : Bool := (decide (1 ≤ f.f0) && decide (f.f0 ≤ 7)) && (if pts f.f0 then decide (0 ≤ f.f1) && decide (f.f1 ≤ n - 1) else f.f1 == 0)
def dup (f g : S45) : Bool := g.f0 == f.f0 && (f.f0 != 5 || g.f1 == f.f1)
def chk (n : Int) : List S45 → List S45 → Bool
 | _, [] => true
 | p, f :: r => fok n f && (!(p.any (dup f)) && chk n (p ++ [f]) r)
theorem take_succ' {α : Type} (l : List α) (i : Nat) (h : i < l.length) : l.take i ++ [l[i]] = l.take (i + 1) := by rw [List.take_add_one, List.getElem?_eq_getElem h]; rfl
theorem sp_in (n : Int) (b b' : Bool) (l : List S45) (i : Nat) (hi : i < l.length) (hl : (l.length : Int) ≤ 1048576) (R : Bool) (hR : Ev (fun k => spec_l7Sub.l0 k n ((i + 1 : Nat) : Int) b b' l) R) (d : Nat) :
  ∀ j : Nat, j ≤ i → i - j = d → Ev (fun k => spec_l7Sub.l1 k n i j b b' l l[i].f0 l[i].f1) (!(((l.take i).drop j).any (dup l[i])) && R) := by
 induction d with
 | zero =>
  intro j hj hd
  have e : (l.take i).drop j = [] := List.drop_eq_nil_of_le (by simp; omega)
  rw [e]
  refine Ev.step (fun k => ?_) hR
  simp only [spec_l7Sub.l1]
  rw [if_neg (by omega), nxt (by omega)]
 | succ d ih =>
  intro j hj hd
  have hjl : j < (l.take i).length := by simp; omega
  have e : (l.take i).drop j = l[j] :: (l.take i).drop (j + 1) := by
   rw [List.drop_eq_getElem_cons hjl, List.getElem_take]
  have hn := ih (j + 1) (by omega) (by omega)
  rw [e, List.any_cons]
  have hu : ∀ k, spec_l7Sub.l1 (k + 1) n i j b b' l l[i].f0 l[i].f1 = if l[j].f0 = l[i].f0 then (if l[i].f0 = 5 then (if l[j].f1 = l[i].f1 then some false else spec_l7Sub.l1 k n i ((j + 1 : Nat) : Int) b b' l l[i].f0 l[i].f1) else some false) else spec_l7Sub.l1 k n i ((j + 1 : Nat) : Int) b b' l l[i].f0 l[i].f1 := by
   intro k
   simp only [spec_l7Sub.l1]
   rw [if_pos (by omega), if_pos (by omega), if_pos (by omega), rd45 l j (by omega), nxt (by omega)]
  by_cases h0 : l[j].f0 = l[i].f0
  ·by_cases h5 : l[i].f0 = 5
   ·by_cases h1 : l[j].f1 = l[i].f1
    ·have hd' : dup l[i] l[j] = true := by simp [dup, h0, h1]
     rw [hd']
     exact Ev.step (f := fun _ => some false) (fun k => by rw [hu, if_pos h0, if_pos h5, if_pos h1]) (Ev.now _)
    ·have hd' : dup l[i] l[j] = false := by simp [dup, h0, h1, h5]
     rw [hd', Bool.false_or]
     exact Ev.step (fun k => by rw [hu, if_pos h0, if_pos h5, if_neg h1]) hn
   ·have hd' : dup l[i] l[j] = true := by simp [dup, h0, h5]
    rw [hd']
    exact Ev.step (f := fun _ => some false) (fun k => by rw [hu, if_pos h0, if_neg h5]) (Ev.now _)
  ·have hd' : dup l[i] l[j] = false := by simp [dup, h0]
   rw [hd', Bool.false_or]
   exact Ev.step (fun k => by rw [hu, if_neg h0]) hn
theorem sp_sub (n : Int) (hn : 0 ≤ n ∧ n ≤ 1048576) (b b' : Bool) (l : List S45) (hl : (l.length : Int) ≤ 1048576) (d : Nat) : ∀ i : Nat, i ≤ l.length → l.length - i = d → Ev (fun k => spec_l7Sub.l0 k n i b b' l) (chk n (l.take i) (l.drop i)) := by
 induction d with
 | zero =>
  intro i hi hd
  rw [List.drop_eq_nil_of_le (by omega)]
  refine Ev.step (f := fun _ => some true) (fun k => ?_) (Ev.now _)
  simp only [spec_l7Sub.l0]
  rw [if_neg (by omega)]
 | succ d ih =>
  intro i hi hd
  have hil : i < l.length := by omega
  have hR := ih (i + 1) (by omega) (by omega)
  rw [List.drop_eq_getElem_cons hil, chk, take_succ' l i hil]
  have hI := sp_in n b b' l i hil hl _ hR i 0 (by omega) (by omega)
  rw [List.drop_zero] at hI
  have ew : wrap64 (n - 1) = n - 1 := w64 (by omega)
  have hu : ∀ k, spec_l7Sub.l0 (k + 1) n i b b' l = spec_l7Sub.j1 k n i (!(fok n l[i])) b b' l l[i].f0 l[i].f1 := by
   intro k
   simp only [spec_l7Sub.l0]
   rw [if_pos (by omega), if_pos (by omega), rd45 l i hil, lin, pts_ev, lin, ew]
   simp only [Option.bind_some, fok]
   cases decide (1 ≤ l[i].f0) && decide (l[i].f0 ≤ 7) <;> cases pts l[i].f0 <;> cases decide (0 ≤ l[i].f1) && decide (l[i].f1 ≤ n - 1) <;> simp <;> rfl
  refine Ev.step hu ?_
  cases hf : fok n l[i]
  ·exact Ev.step (f := fun _ => some false) (fun k => by simp [spec_l7Sub.j1]) (Ev.now _)
  ·refine Ev.step (fun k => ?_) hI
   simp only [spec_l7Sub.j1]
   rw [if_neg (by decide)]
   rfl
def key (f : S45) : S45 := if f.f0 = 1 ∨ f.f0 = 2 ∨ f.f0 = 3 then ⟨f.f0, 0⟩ else f
theorem key_eq {n : Int} {f g : S45} (hf : fok n f = true) (hg : fok n g = true) : (key f = key g) ↔ dup f g = true := by
 obtain ⟨a, b⟩ := f
 obtain ⟨a', b'⟩ := g
 simp only [fok, pts, Bool.and_eq_true, decide_eq_true_eq] at hf hg
 unfold key dup
 constructor
 ·intro h
  by_cases c : a = 1 ∨ a = 2 ∨ a = 3 <;> by_cases c' : a' = 1 ∨ a' = 2 ∨ a' = 3
  ·simp only [if_pos c, if_pos c', S45.mk.injEq] at h
   simp only [h.1, beq_self_eq_true, Bool.true_and, Bool.or_eq_true, bne_iff_ne]
   left
   omega
  ·simp only [if_pos c, if_neg c', S45.mk.injEq] at h
   omega
  ·simp only [if_neg c, if_pos c', S45.mk.injEq] at h
   omega
  ·simp only [if_neg c, if_neg c', S45.mk.injEq] at h
   simp [h.1, h.2]
 ·intro h
  simp only [Bool.and_eq_true, Bool.or_eq_true, beq_iff_eq, bne_iff_ne] at h
  obtain ⟨rfl, h⟩ := h
  by_cases c : a' = 1 ∨ a' = 2 ∨ a' = 3
  ·simp only [if_pos c]
  ·simp only [if_neg c, S45.mk.injEq, true_and]
   rcases h with h | h
   ·have hp : (a' == 1 || a' == 2 || a' == 3 || a' == 5) = false := by simp; omega
    simp only [hp, Bool.false_eq_true, if_false, beq_iff_eq] at hf hg
    omega
   ·exact h.symm
theorem key_mem {n : Int} {f : S45} {p : List S45} (hf : fok n f = true) (hp : ∀ g ∈ p, fok n g = true) : decide (key f ∈ p.map key) = p.any (dup f) := by
 rw [Bool.eq_iff_iff]
 simp only [decide_eq_true_eq, List.mem_map, List.any_eq_true]
 constructor
 ·rintro ⟨g, hg, e⟩
  exact ⟨g, hg, (key_eq hf (hp g hg)).mp e.symm⟩
 ·rintro ⟨g, hg, e⟩
  exact ⟨g, hg, ((key_eq hf (hp g hg)).mpr e).symm⟩
theorem im_sub (X : List S43) (hX : (X.length : Int) ≤ 1048576) (x14 x15 : Int) (l : List S45) (hl : (l.length : Int) ≤ 1048576) (R : Bool) (hR : Ev (fun k => impl_SubsOk.l0 k X X x14 (wrap64 (x15 + 1))) R) (d : Nat) :
  ∀ i : Nat, i ≤ l.length → l.length - i = d → (∀ g ∈ l.take i, fok X.length g = true) → Ev (fun k => impl_SubsOk.l1 k X ((l.take i).map key) X x14 x15 l (l.length : Int) i) (chk X.length (l.take i) (l.drop i) && R) := by
 induction d with
 | zero =>
  intro i hi hd hp
  rw [List.drop_eq_nil_of_le (by omega), chk, Bool.true_and]
  refine Ev.step (fun k => ?_) hR
  simp only [impl_SubsOk.l1]
  rw [if_neg (by omega)]
 | succ d ih =>
  intro i hi hd hp
  have hil : i < l.length := by omega
  have hnx : fok X.length l[i] = true → Ev (fun k => impl_SubsOk.l1 k X ((l.take i).map key ++ [key l[i]]) X x14 x15 l (l.length : Int) ((i + 1 : Nat) : Int)) (chk X.length (l.take (i + 1)) (l.drop (i + 1)) && R) := by
   intro hf
   have := ih (i + 1) (by omega) (by omega) (fun g hg => by
    rw [← take_succ' l i hil] at hg
    rcases List.mem_append.mp hg with h | h
    ·exact hp g h
    ·rw [List.mem_singleton] at h
     subst h
     exact hf)
   rwa [← take_succ' l i hil, List.map_append, List.map_singleton, take_succ' l i hil] at this
  rw [List.drop_eq_getElem_cons hil, chk, take_succ' l i hil]
  have ew : wrap64 ((X.length : Int) - 1) = (X.length : Int) - 1 := w64 (by omega)
  have hlen : ((l.take i).map key).length < 8796093022208 := by simp; omega
  have hs : ∀ f : S45, runtime_boundsError_RuntimeError.f ((l.take i).map key) f.f0 f.f1 = some (decide (f ∈ (l.take i).map key)) := fun _ => rfl
  have hfin : fok X.length l[i] = true → ∀ q : Bool, q = decide (key l[i] ∈ (l.take i).map key) → Ev (fun k => if q = true then some false else if ((l.take i).map key).length < 8796093022208 then impl_SubsOk.l1 k X ((l.take i).map key ++ [key l[i]]) X x14 x15 l (l.length : Int) (wrap64 ((i : Int) + 1)) else none) (fok X.length l[i] && (!((l.take i).any (dup l[i])) && chk X.length (l.take (i + 1)) (l.drop (i + 1))) && R) := by
   intro hf q hq
   rw [key_mem hf hp] at hq
   rw [hf, ← hq, nxt (by omega)]
   cases q
   ·simp only [Bool.false_eq_true, if_false, if_pos hlen, Bool.true_and, Bool.not_false]
    exact hnx hf
   ·exact Ev.now _
  obtain ⟨a, ha⟩ : ∃ a, a = l[i].f0 := ⟨_, rfl⟩
  obtain ⟨b, hb⟩ : ∃ b, b = l[i].f1 := ⟨_, rfl⟩
  have hu : ∀ k, impl_SubsOk.l1 (k + 1) X ((l.take i).map key) X x14 x15 l (l.length : Int) i = impl_SubsOk.j2 k X ((l.take i).map key) X x14 x15 l (l.length : Int) i a (pts a) a b a b := by
   intro k
   simp only [impl_SubsOk.l1]
   rw [if_pos (by omega), if_pos (by omega), if_pos (by omega), rd45 l i hil, ← ha, ← hb]
   by_cases h1 : a = 1
   ·rw [if_pos h1]
    simp [h1, pts]
   by_cases h2 : a = 2
   ·rw [if_neg h1, if_pos h2]
    simp [h2, pts]
   by_cases h3 : a = 3
   ·rw [if_neg h1, if_neg h2, if_pos h3]
    simp [h3, pts]
   rw [if_neg h1, if_neg h2, if_neg h3]
   have e : pts a = (a == 5) := by simp [h1, h2, h3, pts]
   rw [e]
  refine Ev.step hu ?_
  have hfok : fok X.length l[i] = ((decide (1 ≤ a) && decide (a ≤ 7)) && (if pts a then decide (0 ≤ b) && decide (b ≤ (X.length : Int) - 1) else b == 0)) := by rw [ha, hb]; rfl
  have hfalse : fok X.length l[i] = false → Ev (fun _ => some false) (fok X.length l[i] && (!((l.take i).any (dup l[i])) && chk X.length (l.take (i + 1)) (l.drop (i + 1))) && R) := by
   intro h
   rw [h]
   exact Ev.now _
  cases hpa : pts a
  ·rw [hpa] at hfok
   have hna : ¬ (a = 1 ∨ a = 2 ∨ a = 3 ∨ a = 5) := by simpa [pts, not_or, and_assoc] using hpa
   have hkey : key l[i] = ⟨a, b⟩ := by
    unfold key
    rw [← ha, if_neg (by omega), ha, hb]
   have hj : ∀ k, impl_SubsOk.j2 (k + 1) X ((l.take i).map key) X x14 x15 l (l.length : Int) i a false a b a b = impl_SubsOk.j3 k X ((l.take i).map key) X x14 x15 l (l.length : Int) i (a == 4 || a == 6 || a == 7) a b a b := by
    intro k
    simp only [impl_SubsOk.j2]
    rw [if_neg (by decide)]
    by_cases h4 : a = 4
    ·rw [if_pos h4]
     simp [h4]
    by_cases h6 : a = 6
    ·rw [if_neg h4, if_pos h6]
     simp [h6]
    rw [if_neg h4, if_neg h6]
    have e : (a == 4 || a == 6 || a == 7) = (a == 7) := by simp [h4, h6]
    rw [e]
   refine Ev.step hj ?_
   by_cases h467 : a = 4 ∨ a = 6 ∨ a = 7
   ·have e : (a == 4 || a == 6 || a == 7) = true := by simpa [or_assoc] using h467
    rw [e]
    by_cases hb0 : b = 0
    ·have hf : fok X.length l[i] = true := by
      rw [hfok]
      simp [hb0]
      omega
     refine Ev.step (fun k => ?_) (hfin hf _ rfl)
     simp only [impl_SubsOk.j3]
     rw [if_pos trivial, if_pos hb0, hs ⟨a, b⟩, Option.bind_some, hkey]
    ·have hf : fok X.length l[i] = false := by
      rw [hfok]
      simp [hb0]
     refine Ev.step (fun k => ?_) (hfalse hf)
     simp only [impl_SubsOk.j3]
     rw [if_pos trivial, if_neg hb0]
   ·have e : (a == 4 || a == 6 || a == 7) = false := by simpa [not_or, and_assoc] using h467
    rw [e]
    have hf : fok X.length l[i] = false := by
     rw [hfok]
     have : (decide (1 ≤ a) && decide (a ≤ 7)) = false := by
      rw [Bool.eq_false_iff]
      simp only [ne_eq, Bool.and_eq_true, decide_eq_true_eq]
      omega
     rw [this]
     rfl
    refine Ev.step (fun k => ?_) (hfalse hf)
    simp only [impl_SubsOk.j3]
    rw [if_neg (by decide)]
  ·rw [hpa] at hfok
   have hya : a = 1 ∨ a = 2 ∨ a = 3 ∨ a = 5 := by simpa [pts, or_assoc] using hpa
   have h17 : (decide (1 ≤ a) && decide (a ≤ 7)) = true := by simp; omega
   rw [h17, Bool.true_and, if_pos rfl] at hfok
   cases hbb : decide (0 ≤ b) && decide (b ≤ (X.length : Int) - 1)
   ·refine Ev.step (fun k => ?_) (hfalse (hfok.trans hbb))
    simp only [impl_SubsOk.j2]
    rw [if_pos trivial, iin, ew, hbb, Option.bind_some, if_neg (by decide)]
   ·by_cases h5 : a = 5
    ·have hkey : key l[i] = ⟨a, b⟩ := by
      unfold key
      rw [← ha, if_neg (by omega), ha, hb]
     refine Ev.step (fun k => ?_) (hfin (hfok.trans hbb) _ rfl)
     simp only [impl_SubsOk.j2]
     rw [if_pos trivial, iin, ew, hbb, Option.bind_some, if_pos rfl, if_pos h5, hs ⟨a, b⟩, Option.bind_some, hkey]
    ·have hkey : key l[i] = ⟨a, 0⟩ := by
      unfold key
      rw [← ha, if_pos (by omega)]
     refine Ev.step (fun k => ?_) (hfin (hfok.trans hbb) _ rfl)
     simp only [impl_SubsOk.j2]
     rw [if_pos trivial, iin, ew, hbb, Option.bind_some, if_pos rfl, if_neg h5, hs ⟨a, 0⟩, Option.bind_some, hkey]
/-! subs -/
def lenOk (L : List S43) : Bool := decide (1 ≤ (L.length : Int)) && decide ((L.length : Int) ≤ 16)
def allOk (L r : List S43) : Bool := r.all fun s => chk L.length [] s.f2
def subsOk (L : List S43) : Bool := lenOk L && allOk L L
theorem sp_all (L : List S43) (hL : (L.length : Int) ≤ 1048576) (hf : ∀ s ∈ L, (s.f2.length : Int) ≤ 1048576) (d : Nat) : ∀ i : Nat, i ≤ L.length → L.length - i = d → Ev (fun k => spec_SubsOk.l0 k L i) (allOk L (L.drop i) && lenOk L) := by
 induction d with
 | zero =>
  intro i hi hd
  rw [List.drop_eq_nil_of_le (by omega)]
  refine Ev.step (f := fun _ => some (lenOk L)) (fun k => ?_) (Ev.now _)
  simp only [spec_SubsOk.l0]
  rw [if_neg (by omega), lin]
  rfl
 | succ d ih =>
  intro i hi hd
  have hil : i < L.length := by omega
  rw [List.drop_eq_getElem_cons hil]
  have hS : Ev (fun k => spec_l7Sub.f k L[i].f0 L[i].f1 L[i].f2 (L.length : Int)) (chk L.length [] L[i].f2) := by
   have := sp_sub L.length (by omega) L[i].f0 L[i].f1 L[i].f2 (hf _ (List.getElem_mem hil)) L[i].f2.length 0 (by omega) (by omega)
   exact Ev.congr (fun k => rfl) this
  refine Ev.step (f := fun k => (spec_l7Sub.f k L[i].f0 L[i].f1 L[i].f2 (L.length : Int)).bind fun t => if t = true then spec_SubsOk.l0 k L ((i + 1 : Nat) : Int) else some false) (fun k => ?_) (Ev.bind hS ?_)
  ·simp only [spec_SubsOk.l0]
   rw [if_pos (by omega), if_pos (by omega), rd43 L i hil, nxt (by omega)]
  ·cases hc : chk L.length [] L[i].f2
   ·simp only [allOk, List.all_cons, hc, Bool.false_and]
    exact Ev.now _
   ·simp only [allOk, List.all_cons, hc, Bool.true_and, if_true]
    exact ih (i + 1) (by omega) (by omega)
theorem sp_ok (L : List S43) (hL : (L.length : Int) ≤ 1048576) (hf : ∀ s ∈ L, (s.f2.length : Int) ≤ 1048576) : Ev (fun k => spec_SubsOk.f k L) (subsOk L) := by
 have := sp_all L hL hf L.length 0 (by omega) (by omega)
 rw [List.drop_zero, Bool.and_comm] at this
 exact Ev.congr (fun k => rfl) this
theorem im_all (L : List S43) (hL : (L.length : Int) ≤ 1048576) (hf : ∀ s ∈ L, (s.f2.length : Int) ≤ 1048576) (d : Nat) : ∀ i : Nat, i ≤ L.length → L.length - i = d → Ev (fun k => impl_SubsOk.l0 k L L (L.length : Int) i) (allOk L (L.drop i)) := by
 induction d with
 | zero =>
  intro i hi hd
  rw [List.drop_eq_nil_of_le (by omega)]
  refine Ev.step (f := fun _ => some true) (fun k => ?_) (Ev.now _)
  simp only [impl_SubsOk.l0]
  rw [if_neg (by omega)]
 | succ d ih =>
  intro i hi hd
  have hil : i < L.length := by omega
  rw [List.drop_eq_getElem_cons hil]
  have hR := ih (i + 1) (by omega) (by omega)
  rw [← nxt (i := i) (by omega)] at hR
  have := im_sub L hL (L.length : Int) i L[i].f2 (hf _ (List.getElem_mem hil)) _ hR L[i].f2.length 0 (by omega) (by omega) (fun g hg => by simp at hg)
  refine Ev.step (fun k => ?_) this
  simp only [impl_SubsOk.l0]
  rw [if_pos (by omega), if_pos (by omega), if_pos (by omega), rd43 L i hil]
  rfl
theorem im_ok (L : List S43) (hL : (L.length : Int) ≤ 1048576) (hf : ∀ s ∈ L, (s.f2.length : Int) ≤ 1048576) : Ev (fun k => impl_SubsOk.f k L) (subsOk L) := by
 cases hl : lenOk L
 ·refine Ev.congr (f := fun _ => some false) (fun k => ?_) (by unfold subsOk; rw [hl]; exact Ev.now _)
  unfold impl_SubsOk.f
  rw [iin]
  unfold lenOk at hl
  rw [hl, Option.bind_some, if_neg (by decide)]
 ·have := im_all L hL hf L.length 0 (by omega) (by omega)
  rw [List.drop_zero] at this
  unfold subsOk
  rw [hl, Bool.true_and]
  refine Ev.congr (fun k => ?_) this
  unfold impl_SubsOk.f
  rw [iin]
  unfold lenOk at hl
  rw [hl, Option.bind_some, if_pos rfl]
  rfl

/-! what a sub has; where a call goes -/
def hasO (l : List S45) (kind : Int) : Option Int := (l.find? (fun f => f.f0 == kind)).map (fun f => f.f1)
theorem sp_has (l : List S45) (hl : (l.length : Int) ≤ 1048576) (kind : Int) (b b' : Bool) : Ev (fun k => spec_l7Has.f k b b' l kind) ((hasO l kind).getD (-1)) := by
 have hB : ∀ d i : Nat, i ≤ l.length → l.length - i = d → Ev (fun k => spec_l7Has.l0 k kind i b b' l) ((hasO (l.drop i) kind).getD (-1)) := by
  intro d
  induction d with
  | zero =>
   intro i hi hd
   rw [List.drop_eq_nil_of_le (by omega)]
   refine Ev.step (f := fun _ => some (-1)) (fun k => ?_) (Ev.now _)
   simp only [spec_l7Has.l0]
   rw [if_neg (by omega)]
  | succ d ih =>
   intro i hi hd
   have hil : i < l.length := by omega
   rw [List.drop_eq_getElem_cons hil]
   have hu : ∀ k, spec_l7Has.l0 (k + 1) kind i b b' l = if l[i].f0 = kind then some l[i].f1 else spec_l7Has.l0 k kind ((i + 1 : Nat) : Int) b b' l := by
    intro k
    simp only [spec_l7Has.l0]
    rw [if_pos (by omega), if_pos (by omega), rd45 l i hil, nxt (by omega)]
   by_cases h : l[i].f0 = kind
   ·have e : hasO (l[i] :: l.drop (i + 1)) kind = some l[i].f1 := by unfold hasO; rw [List.find?_cons_of_pos (by simp [h])]; rfl
    rw [e]
    exact Ev.step (f := fun _ => some l[i].f1) (fun k => by rw [hu, if_pos h]) (Ev.now _)
   ·have e : hasO (l[i] :: l.drop (i + 1)) kind = hasO (l.drop (i + 1)) kind := by unfold hasO; rw [List.find?_cons_of_neg (by simp [h])]
    rw [e]
    exact Ev.step (fun k => by rw [hu, if_neg h]) (ih (i + 1) (by omega) (by omega))
 have := hB l.length 0 (by omega) (by omega)
 rw [List.drop_zero] at this
 exact Ev.congr (fun k => rfl) this
theorem im_has (l : List S45) (hl : (l.length : Int) ≤ 1048576) (kind : Int) (b b' : Bool) : Ev (fun k => impl_Sub_has.f k b b' l kind (-1) (-1)) ((hasO l kind).getD 0, (hasO l kind).isSome) := by
 have hB : ∀ d i : Nat, i ≤ l.length → l.length - i = d → Ev (fun k => impl_Sub_has.l0 k kind (-1) (-1) l (l.length : Int) i) ((hasO (l.drop i) kind).getD 0, (hasO (l.drop i) kind).isSome) := by
  intro d
  induction d with
  | zero =>
   intro i hi hd
   rw [List.drop_eq_nil_of_le (by omega)]
   refine Ev.step (f := fun _ => some (0, false)) (fun k => ?_) (Ev.now _)
   simp only [impl_Sub_has.l0]
   rw [if_neg (by omega)]
  | succ d ih =>
   intro i hi hd
   have hil : i < l.length := by omega
   rw [List.drop_eq_getElem_cons hil]
   have hu : ∀ k, impl_Sub_has.l0 (k + 1) kind (-1) (-1) l (l.length : Int) i = if l[i].f0 = kind then some (l[i].f1, true) else impl_Sub_has.l0 k kind (-1) (-1) l (l.length : Int) ((i + 1 : Nat) : Int) := by
    intro k
    simp only [impl_Sub_has.l0]
    rw [if_pos (by omega), if_pos (by omega), if_pos (by omega), rd45 l i hil, nxt (by omega)]
    have e : ¬ (i : Int) = -1 := by omega
    simp only [if_neg e]
   by_cases h : l[i].f0 = kind
   ·have e : hasO (l[i] :: l.drop (i + 1)) kind = some l[i].f1 := by unfold hasO; rw [List.find?_cons_of_pos (by simp [h])]; rfl
    rw [e]
    exact Ev.step (f := fun _ => some (l[i].f1, true)) (fun k => by rw [hu, if_pos h]) (Ev.now _)
   ·have e : hasO (l[i] :: l.drop (i + 1)) kind = hasO (l.drop (i + 1)) kind := by unfold hasO; rw [List.find?_cons_of_neg (by simp [h])]
    rw [e]
    exact Ev.step (fun k => by rw [hu, if_neg h]) (ih (i + 1) (by omega) (by omega))
 have := hB l.length 0 (by omega) (by omega)
 rw [List.drop_zero] at this
 exact Ev.congr (fun k => rfl) this
theorem chk_mem {n : Int} : ∀ {l p : List S45}, chk n p l = true → ∀ f ∈ l, fok n f = true
 | [], _, _, f, hf => by cases hf
 | a :: r, p, h, f, hf => by
  simp only [chk, Bool.and_eq_true] at h
  rcases List.mem_cons.mp hf with rfl | hf
  ·exact h.1
  ·exact chk_mem h.2.2 f hf
theorem has_in {n : Int} {l : List S45} (h : ∀ f ∈ l, fok n f = true) {kind o : Int} (ho : hasO l kind = some o) : 0 ≤ o ∧ (pts kind = true → o ≤ n - 1) := by
 unfold hasO at ho
 obtain ⟨f, hf, rfl⟩ := Option.map_eq_some_iff.mp ho
 have hk : f.f0 = kind := by simpa using List.find?_some hf
 have := h f (List.mem_of_find?_eq_some hf)
 subst hk
 unfold fok at this
 cases hp : pts f.f0
 ·rw [hp] at this
  simp at this
  exact ⟨by omega, fun h => by cases h⟩
 ·rw [hp] at this
  simp at this
  exact ⟨by omega, fun _ => by omega⟩
theorem has_dec {n : Int} {l : List S45} (h : ∀ f ∈ l, fok n f = true) (kind : Int) : decide ((hasO l kind).getD (-1) ≥ 0) = (hasO l kind).isSome := by
 cases ho : hasO l kind with
 | none => rfl
 | some o =>
  have := (has_in h ho).1
  simp [this]
theorem sp_within (l : List Int) (hl : (l.length : Int) ≤ 1048576) (x : Int) : Ev (fun k => spec_l7Within.f k l x) (l.any (· == x)) := by
 have hB : ∀ d i : Nat, i ≤ l.length → l.length - i = d → Ev (fun k => spec_l7Within.l0 k l x i) ((l.drop i).any (· == x)) := by
  intro d
  induction d with
  | zero =>
   intro i hi hd
   rw [List.drop_eq_nil_of_le (by omega)]
   refine Ev.step (f := fun _ => some false) (fun k => ?_) (Ev.now _)
   simp only [spec_l7Within.l0]
   rw [if_neg (by omega)]
  | succ d ih =>
   intro i hi hd
   have hil : i < l.length := by omega
   have er : rd l (i : Int) = l[i] := by simp only [rd, Int.toNat_natCast]; exact getD_at _ _ _ hil
   rw [List.drop_eq_getElem_cons hil, List.any_cons]
   have hu : ∀ k, spec_l7Within.l0 (k + 1) l x i = if l[i] = x then some true else spec_l7Within.l0 k l x ((i + 1 : Nat) : Int) := by
    intro k
    simp only [spec_l7Within.l0]
    rw [if_pos (by omega), if_pos (by omega), er, nxt (by omega)]
   by_cases h : l[i] = x
   ·have e : (l[i] == x) = true := by simp [h]
    rw [e]
    exact Ev.step (f := fun _ => some true) (fun k => by rw [hu, if_pos h]) (Ev.now _)
   ·have e : (l[i] == x) = false := by simp [h]
    rw [e, Bool.false_or]
    exact Ev.step (fun k => by rw [hu, if_neg h]) (ih (i + 1) (by omega) (by omega))
 have := hB l.length 0 (by omega) (by omega)
 rw [List.drop_zero] at this
 exact Ev.congr (fun k => rfl) this
theorem im_contains (l : List Int) (hl : (l.length : Int) ≤ 1048576) (x : Int) : Ev (fun k => slices_Contains_int_int.f k l x) (l.any (· == x)) := by
 have hB : ∀ d i : Nat, i ≤ l.length → l.length - i = d → ∃ t, Ev (fun k => slices_Index_int_int.l0 k l x (l.length : Int) i) t ∧ decide (t ≥ 0) = (l.drop i).any (· == x) := by
  intro d
  induction d with
  | zero =>
   intro i hi hd
   rw [List.drop_eq_nil_of_le (by omega)]
   refine ⟨-1, Ev.step (f := fun _ => some (-1)) (fun k => ?_) (Ev.now _), rfl⟩
   simp only [slices_Index_int_int.l0]
   rw [if_neg (by omega)]
  | succ d ih =>
   intro i hi hd
   have hil : i < l.length := by omega
   have er : rd l (i : Int) = l[i] := by simp only [rd, Int.toNat_natCast]; exact getD_at _ _ _ hil
   rw [List.drop_eq_getElem_cons hil, List.any_cons]
   have hu : ∀ k, slices_Index_int_int.l0 (k + 1) l x (l.length : Int) i = if x = l[i] then some (i : Int) else slices_Index_int_int.l0 k l x (l.length : Int) ((i + 1 : Nat) : Int) := by
    intro k
    simp only [slices_Index_int_int.l0]
    rw [if_pos (by omega), if_pos (by omega), if_pos (by omega), er, nxt (by omega)]
   by_cases h : x = l[i]
   ·have e : (l[i] == x) = true := by simp [h]
    rw [e]
    exact ⟨i, Ev.step (f := fun _ => some (i : Int)) (fun k => by rw [hu, if_pos h]) (Ev.now _), by simp⟩
   ·have e : (l[i] == x) = false := by simpa using fun h' => h h'.symm
    obtain ⟨t, ht, hd'⟩ := ih (i + 1) (by omega) (by omega)
    rw [e, Bool.false_or]
    exact ⟨t, Ev.step (fun k => by rw [hu, if_neg h]) ht, hd'⟩
 obtain ⟨t, ht, hd⟩ := hB l.length 0 (by omega) (by omega)
 rw [List.drop_zero] at hd
 refine Ev.congr (f := fun k => (slices_Index_int_int.l0 k l x (l.length : Int) 0).bind fun t => some (decide (t ≥ 0))) (fun k => rfl) (Ev.bind ht ?_)
 rw [hd]
 exact Ev.now _
def scr (l : List S45) (fr : Int) (pv : Bool) : Bool := l.any fun f => f.f0 == 5 && (pv || f.f1 == fr)
theorem sp_scr (L : List S43) (fr : Int) (a : Nat) (ha : a < L.length) (pv : Bool) (hf : (L[a].f2.length : Int) ≤ 1048576) : Ev (fun k => spec_l7Screened.l0 k L fr a pv 0) (scr L[a].f2 fr pv) := by
 have hB : ∀ d i : Nat, i ≤ L[a].f2.length → L[a].f2.length - i = d → Ev (fun k => spec_l7Screened.l0 k L fr a pv i) (scr (L[a].f2.drop i) fr pv) := by
  intro d
  induction d with
  | zero =>
   intro i hi hd
   rw [List.drop_eq_nil_of_le (by omega)]
   refine Ev.step (f := fun _ => some false) (fun k => ?_) (Ev.now _)
   simp only [spec_l7Screened.l0]
   rw [if_pos (by omega), if_pos (by omega), rd43 L a ha, if_neg (by omega)]
  | succ d ih =>
   intro i hi hd
   have hil : i < L[a].f2.length := by omega
   rw [List.drop_eq_getElem_cons hil]
   have hn := ih (i + 1) (by omega) (by omega)
   have hu : ∀ k, spec_l7Screened.l0 (k + 1) L fr a pv i = if (L[a].f2[i].f0 == 5 && (pv || L[a].f2[i].f1 == fr)) = true then some true else spec_l7Screened.l0 k L fr a pv ((i + 1 : Nat) : Int) := by
    intro k
    simp only [spec_l7Screened.l0]
    rw [if_pos (by omega), if_pos (by omega), rd43 L a ha, if_pos (by omega), if_pos (by omega), rd45 _ i hil, nxt (by omega)]
    by_cases h5 : L[a].f2[i].f0 = 5 <;> cases pv <;> by_cases h1 : L[a].f2[i].f1 = fr <;> simp [h5, h1]
   have e : scr (L[a].f2[i] :: L[a].f2.drop (i + 1)) fr pv = ((L[a].f2[i].f0 == 5 && (pv || L[a].f2[i].f1 == fr)) || scr (L[a].f2.drop (i + 1)) fr pv) := rfl
   rw [e]
   cases hc : (L[a].f2[i].f0 == 5 && (pv || L[a].f2[i].f1 == fr))
   ·rw [Bool.false_or]
    exact Ev.step (fun k => by rw [hu, hc, if_neg (by decide)]) hn
   ·exact Ev.step (f := fun _ => some true) (fun k => by rw [hu, hc, if_pos rfl]) (Ev.now _)
 have := hB L[a].f2.length 0 (by omega) (by omega)
 rw [List.drop_zero] at this
 exact this
theorem im_scr (L : List S43) (fr : Int) (l : List S45) (a : Nat) (pv : Bool) (hops : List Int) (hf : (l.length : Int) ≤ 1048576) (R : Int × Int × List Int)
  (hR : scr l fr pv = false → Ev (fun k => (impl_route_1.f k a 1 (-1) L (-1) (-1)).bind fun q => if q.2 = true then impl_route.j3 k fr pv q.1 q.2 false L (-1) (-1) (-1) hops a else if 0 ≤ (a : Int) then (if (a : Int) < (L.length : Int) then impl_route.j3 k fr pv q.1 q.2 (rd_T43 L a).f0 L (-1) (-1) (-1) hops a else none) else none) R) :
  Ev (fun k => impl_route.l1 k fr pv false l (l.length : Int) 0 L (-1) (-1) (-1) hops a) (if scr l fr pv = true then (6, (a : Int), hops) else R) := by
 have hB : ∀ (d i : Nat) (x : Bool), i ≤ l.length → l.length - i = d → (x || scr (l.drop i) fr pv) = scr l fr pv → Ev (fun k => impl_route.l1 k fr pv x l (l.length : Int) i L (-1) (-1) (-1) hops a) (if scr l fr pv = true then (6, (a : Int), hops) else R) := by
  intro d
  induction d with
  | zero =>
   intro i x hi hd hx
   rw [List.drop_eq_nil_of_le (by omega)] at hx
   have hx' : scr l fr pv = x := by rw [← hx]; simp [scr]
   have hu : ∀ k, impl_route.l1 (k + 1) fr pv x l (l.length : Int) i L (-1) (-1) (-1) hops a = if x = true then some (6, (a : Int), hops) else (impl_route_1.f k a 1 (-1) L (-1) (-1)).bind fun q => if q.2 = true then impl_route.j3 k fr pv q.1 q.2 false L (-1) (-1) (-1) hops a else if 0 ≤ (a : Int) then (if (a : Int) < (L.length : Int) then impl_route.j3 k fr pv q.1 q.2 (rd_T43 L a).f0 L (-1) (-1) (-1) hops a else none) else none := by
    intro k
    simp only [impl_route.l1]
    rw [if_neg (by omega)]
   rw [hx']
   cases x
   ·exact Ev.step (fun k => by rw [hu, if_neg (by decide)]) (hR hx')
   ·exact Ev.step (f := fun _ => some (6, (a : Int), hops)) (fun k => by rw [hu, if_pos rfl]) (Ev.now _)
  | succ d ih =>
   intro i x hi hd hx
   have hil : i < l.length := by omega
   rw [List.drop_eq_getElem_cons hil] at hx
   have e : scr (l[i] :: l.drop (i + 1)) fr pv = ((l[i].f0 == 5 && (pv || l[i].f1 == fr)) || scr (l.drop (i + 1)) fr pv) := rfl
   rw [e, ← Bool.or_assoc] at hx
   refine Ev.step (fun k => ?_) (ih (i + 1) (x || (l[i].f0 == 5 && (pv || l[i].f1 == fr))) (by omega) (by omega) hx)
   simp only [impl_route.l1]
   have ea : ¬ (a : Int) = -1 := by omega
   rw [if_pos (by omega), if_pos (by omega), if_pos (by omega), rd45 _ i hil, nxt (by omega)]
   simp only [if_neg ea]
   rw [show (l[i].f0 == 5) = decide (l[i].f0 = 5) from rfl, show (l[i].f1 == fr) = decide (l[i].f1 = fr) from rfl]
   by_cases h5 : l[i].f0 = 5 <;> cases pv <;> by_cases h1 : l[i].f1 = fr <;> simp only [h5, h1, if_true, if_false, decide_true, decide_false, Bool.or_true, Bool.or_false, Bool.true_or, Bool.false_or, Bool.and_true, Bool.and_false, Bool.true_and, Bool.false_and, Bool.false_eq_true]
 exact hB l.length 0 false (by omega) (by omega) (by rw [List.drop_zero, Bool.false_or])
def rt (L : List S43) (fr : Int) (pv : Bool) : Nat → List Int → Int → Int × Int × List Int
 | 0, hops, a => (7, a, hops)
 | d + 1, hops, a =>
  if (decide (a = fr) || (hops.any (· == a) || decide ((hops.length : Int) > 5))) = true then (7, a, hops) else
  if scr (rd_T43 L a).f2 fr pv = true then (6, a, hops) else
  match hasO (rd_T43 L a).f2 1 with
  | some o => rt L fr pv d (hops ++ [a]) o
  | none =>
   if (rd_T43 L a).f0 = true then
    (if (hasO (rd_T43 L a).f2 6).isSome = true then (2, a, hops) else
     match hasO (rd_T43 L a).f2 2 with
     | some o => rt L fr pv d (hops ++ [a]) o
     | none => (3, a, hops))
   else if (rd_T43 L a).f1 = true then
    (match hasO (rd_T43 L a).f2 3 with
     | some o => rt L fr pv d (hops ++ [a]) o
     | none => (4, a, hops))
   else (1, a, hops)

/-! the way of a call -/
structure OkS (L : List S43) : Prop where
 len : (L.length : Int) ≤ 1048576
 feats : ∀ s ∈ L, (s.f2.length : Int) ≤ 1048576
 all : ∀ s ∈ L, ∀ f ∈ s.f2, fok L.length f = true
theorem OkS.of (L : List S43) (hL : (L.length : Int) ≤ 1048576) (hf : ∀ s ∈ L, (s.f2.length : Int) ≤ 1048576) (h : subsOk L = true) : OkS L := by
 refine ⟨hL, hf, fun s hs f hf' => ?_⟩
 simp only [subsOk, allOk, Bool.and_eq_true, List.all_eq_true] at h
 exact chk_mem (h.2 s hs) f hf'
section
variable {L : List S43} (ok : OkS L)
include ok
theorem OkS.has_at (a : Nat) (ha : a < L.length) (kind : Int) : Ev (fun k => spec_l7Has.f k L[a].f0 L[a].f1 L[a].f2 kind) ((hasO L[a].f2 kind).getD (-1)) := sp_has _ (ok.feats _ (List.getElem_mem ha)) _ _ _
theorem OkS.dec (a : Nat) (ha : a < L.length) (kind : Int) : decide ((hasO L[a].f2 kind).getD (-1) ≥ 0) = (hasO L[a].f2 kind).isSome := has_dec (ok.all _ (List.getElem_mem ha)) kind
theorem OkS.pos (a : Nat) (ha : a < L.length) {kind o : Int} (h : hasO L[a].f2 kind = some o) : 0 ≤ o := (has_in (ok.all _ (List.getElem_mem ha)) h).1
theorem OkS.to (a : Nat) (ha : a < L.length) {kind o : Int} (h : hasO L[a].f2 kind = some o) (hp : pts kind = true) : ∃ b : Nat, b < L.length ∧ o = (b : Int) := by
 have := has_in (ok.all _ (List.getElem_mem ha)) h
 have h2 := this.2 hp
 have := this.1
 exact ⟨o.toNat, by omega, by omega⟩
theorem OkS.rt1 (a : Nat) (ha : a < L.length) (kind : Int) : Ev (fun k => impl_route_1.f k a kind (-1) L (-1) (-1)) ((hasO L[a].f2 kind).getD 0, (hasO L[a].f2 kind).isSome) := by
 refine Ev.congr (fun k => ?_) (Ev.bind (im_has L[a].f2 (ok.feats _ (List.getElem_mem ha)) kind L[a].f0 L[a].f1) (Ev.now _))
 unfold impl_route_1.f
 rw [if_neg (show ¬ (a : Int) = -1 by omega), if_pos (by omega), if_pos (by omega), rd43 L a ha]
def loopTest (fr a : Int) (hops : List Int) : Bool := decide (a = fr) || (hops.any (· == a) || decide ((hops.length : Int) > 5))
theorem sp_loop (fr : Nat) (hfr : fr < L.length) (d : Nat) : ∀ (a : Nat) (hops : List Int), a < L.length → hops.length + d = 7 →
  Ev (fun k => spec_Route7.l0 k L fr hops a) (rt L fr (hasO L[fr].f2 7).isSome d hops a) := by
 induction d with
 | zero =>
  intro a hops ha hd
  have h5 : decide ((hops.length : Int) > 5) = true := by simp; omega
  have h1 : (-1 : Int) < 0 := by decide
  have hj : Ev (fun k => spec_Route7.j2 k L fr hops a (-1) 1 true L[a].f0 L[a].f1 L[a].f2) (rt L fr (hasO L[fr].f2 7).isSome 0 hops a) :=
   Ev.step (f := fun _ => some (7, (a : Int), hops)) (fun k => by simp only [spec_Route7.j2]; rw [if_pos trivial, if_pos h1]) (Ev.now _)
  by_cases h0 : (a : Int) = fr
  ·refine Ev.step (fun k => ?_) hj
   simp only [spec_Route7.l0]
   rw [if_pos (by omega), if_pos (by omega), if_pos h0, rd43 L a ha]
  ·refine Ev.step (fun k => ?_) (Ev.bind (sp_within hops (by omega) a) (f := fun k t => if t = true then spec_Route7.j2 k L fr hops a (-1) 1 true L[a].f0 L[a].f1 L[a].f2 else spec_Route7.j2 k L fr hops a (-1) 1 (decide ((hops.length : Int) > 5)) L[a].f0 L[a].f1 L[a].f2) ?_)
   ·simp only [spec_Route7.l0]
    rw [if_pos (by omega), if_pos (by omega), if_neg h0, rd43 L a ha]
   ·rw [h5]
    simpa using hj
 | succ d ih =>
  intro a hops ha hd
  have hl := ok.len
  have hgo : ∀ (kind o : Int), pts kind = true → hasO L[a].f2 kind = some o → Ev (fun k => if hops.length < 17592186044416 then spec_Route7.l0 k L fr (hops ++ [(a : Int)]) o else none) (rt L fr (hasO L[fr].f2 7).isSome d (hops ++ [(a : Int)]) o) := by
   intro kind o hp ho
   obtain ⟨b, hb, rfl⟩ := ok.to a ha ho hp
   have := ih b (hops ++ [(a : Int)]) hb (by simp; omega)
   exact Ev.congr (fun k => by rw [if_pos (by omega)]) this
  have hneg : ∀ o : Int, 0 ≤ o → ¬ o < 0 := fun o h => by omega
  have h1 : (-1 : Int) < 0 := by decide
  have hl0 : ∀ R, Ev (fun k => spec_Route7.j2 k L fr hops a (-1) 1 (loopTest fr a hops) L[a].f0 L[a].f1 L[a].f2) R → Ev (fun k => spec_Route7.l0 k L fr hops a) R := by
   intro R hR
   unfold loopTest at hR
   by_cases h0 : (a : Int) = fr
   ·rw [decide_eq_true h0, Bool.true_or] at hR
    refine Ev.step (fun k => ?_) hR
    simp only [spec_Route7.l0]
    rw [if_pos (by omega), if_pos (by omega), if_pos h0, rd43 L a ha]
   ·rw [decide_eq_false h0, Bool.false_or] at hR
    refine Ev.step (fun k => ?_) (Ev.bind (sp_within hops (by omega) a) (r := R) (f := fun k t => if t = true then spec_Route7.j2 k L fr hops a (-1) 1 true L[a].f0 L[a].f1 L[a].f2 else spec_Route7.j2 k L fr hops a (-1) 1 (decide ((hops.length : Int) > 5)) L[a].f0 L[a].f1 L[a].f2) ?_)
    ·simp only [spec_Route7.l0]
     rw [if_pos (by omega), if_pos (by omega), if_neg h0, rd43 L a ha]
    ·cases hc : hops.any (· == (a : Int))
     ·rw [hc, Bool.false_or] at hR
      simpa using hR
     ·rw [hc, Bool.true_or] at hR
      simpa using hR
  refine hl0 _ ?_
  unfold rt
  change Ev _ (if loopTest fr a hops = true then _ else _)
  cases hc : loopTest fr a hops
  rotate_left
  ·exact Ev.step (f := fun _ => some (7, (a : Int), hops)) (fun k => by simp only [spec_Route7.j2]; rw [if_pos trivial, if_pos h1]) (Ev.now _)
  rw [if_neg (by decide), rd43 L a ha]
  have hS : Ev (fun k => spec_l7Screened.f k L fr a) (scr L[a].f2 fr (hasO L[fr].f2 7).isSome) := by
   refine Ev.congr (fun k => ?_) (Ev.bind (ok.has_at fr hfr 7) (f := fun k t => spec_l7Screened.l0 k L fr a (decide (t ≥ 0)) 0) (r := scr L[a].f2 fr (hasO L[fr].f2 7).isSome) ?_)
   ·unfold spec_l7Screened.f
    rw [if_pos (by omega), if_pos (by omega), rd43 L fr hfr]
   ·rw [ok.dec fr hfr 7]
    exact sp_scr L fr a ha _ (ok.feats _ (List.getElem_mem ha))
  refine Ev.step (fun k => by simp only [spec_Route7.j2]; rw [if_neg (by decide)]) (Ev.bind hS ?_)
  cases hs : scr L[a].f2 fr (hasO L[fr].f2 7).isSome
  rotate_left
  ·simp only [if_true, if_pos h1]
   exact Ev.now _
  simp only [Bool.false_eq_true, if_false]
  refine Ev.bind (ok.has_at a ha 1) ?_
  cases hf : hasO L[a].f2 1 with
  | some o =>
   have hp := ok.pos a ha hf
   simp only [Option.getD_some, if_pos (show o ≥ 0 from hp)]
   refine Ev.bind (ok.has_at a ha 1) ?_
   rw [hf]
   simp only [Option.getD_some, if_neg (hneg o hp)]
   exact hgo 1 o rfl hf
  | none =>
   simp only [Option.getD_none, if_neg (show ¬ ((-1 : Int) ≥ 0) by decide)]
   have hj5 : L[a].f0 = false → Ev (fun k => spec_Route7.j5 k L fr hops a (-1) 1 (L[a].f1 && (hasO L[a].f2 3).isSome) L[a].f0 L[a].f1 L[a].f2) (if L[a].f1 = true then (match hasO L[a].f2 3 with | some o => rt L fr (hasO L[fr].f2 7).isSome d (hops ++ [(a : Int)]) o | none => (4, (a : Int), hops)) else (1, (a : Int), hops)) := by
    intro _
    cases hla : L[a].f1
    ·refine Ev.step (f := fun _ => some (1, (a : Int), hops)) (fun k => ?_) (Ev.now _)
     simp [spec_Route7.j5]
    ·cases h3 : hasO L[a].f2 3 with
     | none =>
      refine Ev.step (f := fun _ => some (4, (a : Int), hops)) (fun k => ?_) (Ev.now _)
      simp [spec_Route7.j5]
     | some o =>
      have hp := ok.pos a ha h3
      have hh := ok.has_at a ha 3
      rw [h3, hla] at hh
      refine Ev.step (fun k => ?_) (Ev.bind hh (f := fun k t => if t < 0 then some (1, (a : Int), hops) else if hops.length < 17592186044416 then spec_Route7.l0 k L fr (hops ++ [(a : Int)]) t else none) ?_)
      ·simp only [spec_Route7.j5, Bool.true_and, Option.isSome_some, if_true]
      ·simp only [Option.getD_some, if_neg (hneg o hp), if_true]
       exact hgo 3 o rfl h3
   cases hba : L[a].f0
   ·simp only [Bool.false_eq_true, if_false]
    have hq := hj5 hba
    rw [hba] at hq
    have hh := ok.has_at a ha 3
    rw [hba] at hh
    refine Ev.step (f := fun k => spec_Route7.j4 k L fr hops a (-1) 1 false false L[a].f1 L[a].f2) (fun k => by simp only [spec_Route7.j3, Bool.false_eq_true, if_false]) ?_
    cases hla : L[a].f1
    ·rw [hla] at hq
     refine Ev.step (fun k => ?_) hq
     simp only [spec_Route7.j4, Bool.false_eq_true, if_false, Bool.false_and]
    ·rw [hla] at hq hh
     refine Ev.step (fun k => ?_) (Ev.bind hh (f := fun k t => spec_Route7.j5 k L fr hops a (-1) 1 (decide (t ≥ 0)) false true L[a].f2) ?_)
     ·simp only [spec_Route7.j4, Bool.false_eq_true, if_false, if_true]
     ·rw [ok.dec a ha 3]
      simpa using hq
   ·have hh6 := ok.has_at a ha 6
    have hh2 := ok.has_at a ha 2
    rw [hba] at hh6 hh2
    simp only [if_true]
    refine Ev.bind hh6 ?_
    rw [ok.dec a ha 6]
    cases h6 : (hasO L[a].f2 6).isSome
    rotate_left
    ·refine Ev.step (f := fun _ => some (2, (a : Int), hops)) (fun k => ?_) (Ev.now _)
     simp [spec_Route7.j3]
    simp only [Bool.false_eq_true, if_false]
    refine Ev.step (fun k => ?_) (Ev.bind hh2 (f := fun k t => spec_Route7.j4 k L fr hops a (-1) 1 (decide (t ≥ 0)) true L[a].f1 L[a].f2) ?_)
    ·simp only [spec_Route7.j3, Bool.false_eq_true, if_false, if_true]
    rw [ok.dec a ha 2]
    cases h2 : hasO L[a].f2 2 with
    | none =>
     refine Ev.step (f := fun _ => some (3, (a : Int), hops)) (fun k => ?_) (Ev.now _)
     simp [spec_Route7.j4]
    | some o =>
     have hp := ok.pos a ha h2
     rw [h2] at hh2
     refine Ev.step (fun k => ?_) (Ev.bind hh2 (f := fun k t => if t < 0 then some (1, (a : Int), hops) else if hops.length < 17592186044416 then spec_Route7.l0 k L fr (hops ++ [(a : Int)]) t else none) ?_)
     ·simp only [spec_Route7.j4, Option.isSome_some, if_true]
     ·simp only [Option.getD_some, if_neg (hneg o hp)]
      exact hgo 2 o rfl h2
theorem im_loop (fr : Nat) (hfr : fr < L.length) (pv : Bool) (d : Nat) : ∀ (a : Nat) (hops : List Int), a < L.length → hops.length + d = 7 →
  Ev (fun k => impl_route.l0 k fr pv L (-1) (-1) (-1) hops a) (rt L fr pv d hops a) := by
 induction d with
 | zero =>
  intro a hops ha hd
  have h5 : decide ((hops.length : Int) > 5) = true := by simp; omega
  have hj : Ev (fun k => impl_route.j1 k fr pv true L (-1) (-1) (-1) hops a) (rt L fr pv 0 hops a) :=
   Ev.step (f := fun _ => some (7, (a : Int), hops)) (fun k => by simp only [impl_route.j1]; rw [if_pos trivial]) (Ev.now _)
  by_cases h0 : (a : Int) = fr
  ·refine Ev.step (fun k => ?_) hj
   simp only [impl_route.l0]
   rw [if_pos h0]
  ·refine Ev.step (fun k => ?_) (Ev.bind (im_contains hops (by omega) a) (f := fun k t => if t = true then impl_route.j1 k fr pv true L (-1) (-1) (-1) hops a else impl_route.j1 k fr pv (decide ((hops.length : Int) > 5)) L (-1) (-1) (-1) hops a) ?_)
   ·simp only [impl_route.l0]
    rw [if_neg h0]
   ·rw [h5]
    simpa using hj
 | succ d ih =>
  intro a hops ha hd
  have hl := ok.len
  have hgo : ∀ (kind o : Int), pts kind = true → hasO L[a].f2 kind = some o → Ev (fun k => if hops.length < 17592186044416 then impl_route.l0 k fr pv L (-1) (-1) (-1) (hops ++ [(a : Int)]) o else none) (rt L fr pv d (hops ++ [(a : Int)]) o) := by
   intro kind o hp ho
   obtain ⟨b, hb, rfl⟩ := ok.to a ha ho hp
   have := ih b (hops ++ [(a : Int)]) hb (by simp; omega)
   exact Ev.congr (fun k => by rw [if_pos (by omega)]) this
  have hl0 : ∀ R, Ev (fun k => impl_route.j1 k fr pv (loopTest fr a hops) L (-1) (-1) (-1) hops a) R → Ev (fun k => impl_route.l0 k fr pv L (-1) (-1) (-1) hops a) R := by
   intro R hR
   unfold loopTest at hR
   by_cases h0 : (a : Int) = fr
   ·rw [decide_eq_true h0, Bool.true_or] at hR
    refine Ev.step (fun k => ?_) hR
    simp only [impl_route.l0]
    rw [if_pos h0]
   ·rw [decide_eq_false h0, Bool.false_or] at hR
    refine Ev.step (fun k => ?_) (Ev.bind (im_contains hops (by omega) a) (r := R) (f := fun k t => if t = true then impl_route.j1 k fr pv true L (-1) (-1) (-1) hops a else impl_route.j1 k fr pv (decide ((hops.length : Int) > 5)) L (-1) (-1) (-1) hops a) ?_)
    ·simp only [impl_route.l0]
     rw [if_neg h0]
    ·cases hc : hops.any (· == (a : Int))
     ·rw [hc, Bool.false_or] at hR
      simpa using hR
     ·rw [hc, Bool.true_or] at hR
      simpa using hR
  refine hl0 _ ?_
  unfold rt
  change Ev _ (if loopTest fr a hops = true then _ else _)
  cases hc : loopTest fr a hops
  rotate_left
  ·exact Ev.step (f := fun _ => some (7, (a : Int), hops)) (fun k => by simp only [impl_route.j1]; rw [if_pos trivial]) (Ev.now _)
  rw [if_neg (by decide), rd43 L a ha]
  refine Ev.step (fun k => ?_) (im_scr L fr L[a].f2 a pv hops (ok.feats _ (List.getElem_mem ha)) _ ?_)
  ·simp only [impl_route.j1]
   rw [if_neg (by decide), if_pos (by omega), if_pos (by omega), rd43 L a ha]
  intro _
  refine Ev.bind (ok.rt1 a ha 1) ?_
  cases hf : hasO L[a].f2 1 with
  | some o =>
   simp only [Option.getD_some, Option.isSome_some, if_true]
   refine Ev.step (f := fun k => impl_route.j4 k fr pv o true L (-1) (-1) (-1) hops a) (fun k => by simp only [impl_route.j3, Bool.false_eq_true, if_false]) ?_
   refine Ev.step (f := fun k => impl_route.j5 k fr pv o true false L (-1) (-1) (-1) hops a) (fun k => by simp only [impl_route.j4, if_true]) ?_
   refine Ev.step (fun k => ?_) (hgo 1 o rfl hf)
   simp only [impl_route.j5, Bool.false_eq_true, if_false, if_true]
  | none =>
   simp only [Option.getD_none, Option.isSome_none, Bool.false_eq_true, if_false, if_pos (show (0 : Int) ≤ (a : Int) by omega), if_pos (show (a : Int) < (L.length : Int) by omega), rd43 L a ha]
   cases hba : L[a].f0
   ·simp only [Bool.false_eq_true, if_false]
    refine Ev.step (f := fun k => impl_route.j4 k fr pv 0 false L (-1) (-1) (-1) hops a) (fun k => by simp only [impl_route.j3, Bool.false_eq_true, if_false]) ?_
    refine Ev.step (f := fun k => impl_route.j5 k fr pv 0 false L[a].f1 L (-1) (-1) (-1) hops a) (fun k => by simp only [impl_route.j4, Bool.false_eq_true, if_false, if_pos (show (0 : Int) ≤ (a : Int) by omega), if_pos (show (a : Int) < (L.length : Int) by omega), rd43 L a ha]) ?_
    cases hla : L[a].f1
    ·refine Ev.step (f := fun _ => some (1, (a : Int), hops)) (fun k => ?_) (Ev.now _)
     simp [impl_route.j5]
    ·refine Ev.step (fun k => ?_) (Ev.bind (ok.rt1 a ha 3) (f := fun k q => if q.2 = true then (if hops.length < 17592186044416 then impl_route.l0 k fr pv L (-1) (-1) (-1) (hops ++ [(a : Int)]) q.1 else none) else some (4, (a : Int), hops)) ?_)
     ·simp only [impl_route.j5, if_true]
     ·cases h3 : hasO L[a].f2 3 with
      | none =>
       simp only [Option.isSome_none, Bool.false_eq_true, if_false, if_true]
       exact Ev.now _
      | some o =>
       simp only [Option.isSome_some, Option.getD_some, if_true]
       exact hgo 3 o rfl h3
   ·simp only [if_true]
    refine Ev.step (fun k => ?_) (Ev.bind (ok.rt1 a ha 6) (f := fun k q => if q.2 = true then some (2, (a : Int), hops) else (impl_route_1.f k a 2 (-1) L (-1) (-1)).bind fun q' => if q'.2 = true then impl_route.j4 k fr pv q'.1 q'.2 L (-1) (-1) (-1) hops a else some (3, (a : Int), hops)) ?_)
    ·simp only [impl_route.j3, if_true]
    cases h6 : (hasO L[a].f2 6).isSome
    rotate_left
    ·simp only [if_true]
     exact Ev.now _
    simp only [Bool.false_eq_true, if_false]
    refine Ev.bind (ok.rt1 a ha 2) ?_
    cases h2 : hasO L[a].f2 2 with
    | none =>
     simp only [Option.isSome_none, Bool.false_eq_true, if_false]
     exact Ev.now _
    | some o =>
     simp only [Option.isSome_some, Option.getD_some, if_true]
     refine Ev.step (f := fun k => impl_route.j5 k fr pv o true false L (-1) (-1) (-1) hops a) (fun k => by simp only [impl_route.j4, if_true]) ?_
     refine Ev.step (fun k => ?_) (hgo 2 o rfl h2)
     simp only [impl_route.j5, Bool.false_eq_true, if_false, if_true]
end
def route (L : List S43) (fr to_ : Int) : Int × Int × List Int :=
 if (subsOk L && ((decide (0 ≤ fr) && decide (fr ≤ (L.length : Int) - 1)) && (decide (0 ≤ to_) && decide (to_ ≤ (L.length : Int) - 1)))) = true then
  (if fr = to_ then (8, -1, []) else if (hasO (rd_T43 L fr).f2 4).isSome = true then (5, fr, []) else rt L fr (hasO (rd_T43 L fr).f2 7).isSome 7 [] to_)
 else (8, -1, [])
theorem sp_route (L : List S43) (hL : (L.length : Int) ≤ 1048576) (hf : ∀ s ∈ L, (s.f2.length : Int) ≤ 1048576) (fr to_ : Int) : Ev (fun k => spec_Route7.f k L fr to_) (route L fr to_) := by
 have ew : wrap64 ((L.length : Int) - 1) = (L.length : Int) - 1 := w64 (by omega)
 have hbad : Ev (fun k => spec_Route7.j0 k L fr to_ true) (8, -1, []) := Ev.step (f := fun _ => some (8, -1, [])) (fun k => by simp only [spec_Route7.j0, if_true]) (Ev.now _)
 unfold route
 refine Ev.congr (fun k => rfl) (Ev.bind (sp_ok L hL hf) ?_)
 cases hs : subsOk L
 ·simp only [Bool.false_eq_true, if_false, Bool.false_and]
  exact hbad
 have ok := OkS.of L hL hf hs
 simp only [if_true, Bool.true_and, lin, ew, Option.bind_some]
 cases h1 : decide (0 ≤ fr) && decide (fr ≤ (L.length : Int) - 1)
 ·simp only [Bool.false_eq_true, if_false, Bool.false_and]
  exact hbad
 cases h2 : decide (0 ≤ to_) && decide (to_ ≤ (L.length : Int) - 1)
 ·simp only [Bool.false_eq_true, if_false, Bool.and_false, if_true]
  exact hbad
 simp only [Bool.and_eq_true, decide_eq_true_eq] at h1 h2
 obtain ⟨a, ha, rfl⟩ : ∃ a : Nat, a < L.length ∧ fr = (a : Int) := ⟨fr.toNat, by omega, by omega⟩
 obtain ⟨b, hb, rfl⟩ : ∃ b : Nat, b < L.length ∧ to_ = (b : Int) := ⟨to_.toNat, by omega, by omega⟩
 simp only [if_true, Bool.and_true]
 by_cases he : (a : Int) = b
 ·rw [if_pos he, show ((a : Int) == (b : Int)) = true from by simpa using he]
  exact hbad
 ·rw [if_neg he, show ((a : Int) == (b : Int)) = false from by simpa using he, rd43 L a ha]
  refine Ev.step (fun k => ?_) (Ev.bind (ok.has_at a ha 4) (f := fun k t => if t ≥ 0 then some (5, (a : Int), []) else spec_Route7.l0 k L a [] b) ?_)
  ·simp only [spec_Route7.j0, Bool.false_eq_true, if_false]
   rw [if_pos (by omega), if_pos (by omega), rd43 L a ha]
  ·cases h4 : hasO L[a].f2 4 with
   | none =>
    simp only [Option.getD_none, if_neg (show ¬ ((-1 : Int) ≥ 0) by decide), Option.isSome_none, Bool.false_eq_true, if_false]
    exact sp_loop ok a ha 7 b [] hb rfl
   | some o =>
    simp only [Option.getD_some, if_pos (show o ≥ 0 from ok.pos a ha h4), Option.isSome_some, if_true]
    exact Ev.now _
theorem im_route (L : List S43) (hL : (L.length : Int) ≤ 1048576) (hf : ∀ s ∈ L, (s.f2.length : Int) ≤ 1048576) (fr to_ : Int) : Ev (fun k => impl_Route7.f k L fr to_) (route L fr to_) := by
 have ew : wrap64 ((L.length : Int) - 1) = (L.length : Int) - 1 := w64 (by omega)
 unfold route
 refine Ev.congr (fun k => rfl) (Ev.bind (im_ok L hL hf) ?_)
 cases hs : subsOk L
 ·simp only [Bool.false_eq_true, if_false, Bool.false_and]
  exact Ev.now _
 have ok := OkS.of L hL hf hs
 simp only [if_true, Bool.true_and, iin, ew, Option.bind_some]
 cases h1 : decide (0 ≤ fr) && decide (fr ≤ (L.length : Int) - 1)
 ·simp only [Bool.false_eq_true, if_false, Bool.false_and]
  exact Ev.now _
 cases h2 : decide (0 ≤ to_) && decide (to_ ≤ (L.length : Int) - 1)
 ·simp only [Bool.false_eq_true, if_false, Bool.and_false, if_true]
  exact Ev.now _
 simp only [Bool.and_eq_true, decide_eq_true_eq] at h1 h2
 obtain ⟨a, ha, rfl⟩ : ∃ a : Nat, a < L.length ∧ fr = (a : Int) := ⟨fr.toNat, by omega, by omega⟩
 obtain ⟨b, hb, rfl⟩ : ∃ b : Nat, b < L.length ∧ to_ = (b : Int) := ⟨to_.toNat, by omega, by omega⟩
 simp only [if_true, Bool.and_true]
 by_cases he : (a : Int) = b
 ·simp only [if_pos he]
  exact Ev.now _
 ·simp only [if_neg he, rd43 L a ha]
  refine Ev.bind (g := fun k => impl_route.f k L a b (-1) (-1) (-1)) (a := if (hasO L[a].f2 4).isSome = true then (5, (a : Int), []) else rt L a (hasO L[a].f2 7).isSome 7 [] b) ?_ (Ev.now _)
  refine Ev.congr (fun k => rfl) (Ev.bind (ok.rt1 a ha 4) ?_)
  cases h4 : (hasO L[a].f2 4).isSome
  ·simp only [Bool.false_eq_true, if_false]
   exact Ev.bind (ok.rt1 a ha 7) (im_loop ok a ha _ 7 b [] hb rfl)
  ·simp only [if_true]
   exact Ev.now _

theorem rt_len (L : List S43) (fr : Int) (pv : Bool) : ∀ (d : Nat) (hops : List Int) (a : Int), (rt L fr pv d hops a).2.2.length ≤ hops.length + d
 | 0, hops, a => by simp [rt]
 | d + 1, hops, a => by
  have h : ∀ o, (rt L fr pv d (hops ++ [a]) o).2.2.length ≤ hops.length + (d + 1) := fun o => by
   have := rt_len L fr pv d (hops ++ [a]) o
   simp at this
   omega
  unfold rt
  split
  ·exact Nat.le_add_right _ _
  split
  ·exact Nat.le_add_right _ _
  split
  ·exact h _
  split
  ·split
   ·exact Nat.le_add_right _ _
   ·split
    ·exact h _
    ·exact Nat.le_add_right _ _
  split
  ·split
   ·exact h _
   ·exact Nat.le_add_right _ _
  ·exact Nat.le_add_right _ _
theorem route_len (L : List S43) (fr to_ : Int) : ((route L fr to_).2.2.length : Int) ≤ 7 := by
 unfold route
 split
 ·split
  ·decide
  ·split
   ·simp
   ·have := rt_len L fr (hasO (rd_T43 L fr).f2 7).isSome 7 [] to_
    simp at this
    omega
 ·decide

theorem FnExactRoute7 : SFnExactRoute7.Pure := by
 intro l fr to_ hw _ _
 apply Ev.rounds
 obtain ⟨t, ht, hc⟩ := sz_subs l hw
 refine Ev.congr (fun k => rfl) (Ev.bind ht ?_)
 by_cases c : t < 0
 ·simp only [if_pos c]
  exact Ev.now _
 ·have hl := hc.resolve_left c
  have h0 := tot_nn l
  simp only [if_neg c]
  have hT := subs_to l hl
  obtain ⟨L, hL⟩ : ∃ L, L = l.map toB := ⟨_, rfl⟩
  have hLl : (L.length : Int) ≤ 1048576 := by rw [hL]; simp; omega
  have hLf : ∀ s ∈ L, (s.f2.length : Int) ≤ 1048576 := by
   rw [hL]
   intro s hs
   obtain ⟨s', hs', rfl⟩ := List.mem_map.mp hs
   have := tot_mem hs'
   simp only [toB, List.length_map]
   omega
  have hm : laws_markSubS.f L 1 = some (1 + (2 * (l.length : Int) + 2 * tot l)) := by
   unfold laws_markSubS.f
   rw [hL, sum_map, if_pos (by omega)]
  rw [← hL] at hT
  have hr := route_len L fr to_
  have hs := sp_route L hLl hLf fr to_
  have hi := im_route L hLl hLf fr to_
  obtain ⟨⟨c1, c2, c3⟩, hR⟩ : ∃ R, R = route L fr to_ := ⟨_, rfl⟩
  rw [← hR] at hr hs hi
  have he : Ev (fun k => laws_eqOutcome.f k c1 c2 c3 c1 c2 c3) true := by
   unfold laws_eqOutcome.f
   simp only [if_true]
   refine Ev.bind (eq_ev c3 (by simp only at hr; omega)) ?_
   simp only [if_true]
   exact Ev.now _
  have hk := mark_ev c3 1 (by simp only at hr; omega) (by omega)
  have hd : Ev (fun k => laws_heldOutcome.f k c1 c2 (markL c3 1) 1) (1 + (c3.length : Int)) := by
   unfold laws_heldOutcome.f
   refine Ev.bind (held_ev c3 1 (by simp only at hr; omega) (by omega)) ?_
   simp only [if_neg (show ¬ (1 + (c3.length : Int)) < 0 by omega)]
   exact Ev.now _
  refine Ev.bind hT (Ev.bind hs (Ev.bind hT (Ev.bind hi (Ev.bind he ?_))))
  simp only [if_true]
  refine Ev.bind hT (Ev.bind (subs_eq L hLl hLf) ?_)
  simp only [if_true, hm, Option.bind_some, if_neg (show ¬ (1 + (2 * (l.length : Int) + 2 * tot l)) < 0 by omega)]
  refine Ev.bind he ?_
  have hmo : Ev (fun k => laws_markOutcome.f k c1 c2 c3 1) (1 + (c3.length : Int), markL c3 1) := by
   unfold laws_markOutcome.f
   exact Ev.bind hk (Ev.now _)
  have hlt : ¬ (1 + (c3.length : Int)) < 0 := by omega
  refine Ev.step (fun k => ?_) (Ev.bind hmo (f := fun k bt331 => (laws_heldOutcome.f k c1 c2 bt331.2 1).bind fun t333 => if t333 < 0 then some false else if t333 = bt331.1 then (laws_toSubS.f k l).bind fun t334 => (impl_Route7.f k t334 fr to_).bind fun bt337 => (laws_eqOutcome.f k bt337.1 bt337.2.1 bt337.2.2 c1 c2 c3).bind fun t343 => if t343 = true then (laws_heldOutcome.f k c1 c2 bt331.2 1).bind fun t344 => if t344 < 0 then some false else if t344 = bt331.1 then some true else some false else some false else some false) ?_)
  ·simp only [laws_FnExactRoute7.j0, Bool.not_true, Bool.false_eq_true, if_false]
  refine Ev.bind hd ?_
  simp only [if_neg hlt, if_true]
  refine Ev.bind hT (Ev.bind hi (Ev.bind he ?_))
  simp only [if_true]
  refine Ev.bind hd ?_
  simp only [if_neg hlt, if_true]
  exact Ev.now _

end Go.Proofs.Ytkcmdfeiaafdjaa.Pure
