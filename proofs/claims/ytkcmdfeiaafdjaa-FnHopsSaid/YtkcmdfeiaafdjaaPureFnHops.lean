/- A drawn call's hops: none twice, not where it comes from, no more than there may be; they begin where it goes. No condition. -/
import Derived.Test.YtkcmdfeiaafdjaaSFnHops
set_option linter.unusedVariables false
set_option linter.unusedSimpArgs false
namespace Go.Proofs.Ytkcmdfeiaafdjaa.Pure
open Go.RowKit Go.Proofs.Ytkcmdfeiaafdjaa.PFnHops Go.Proofs.Ytkcmdfeiaafdjaa.SFnHops Go.Proofs.YtkcmdfeiaafdjaaW.PrintWords Go.Proofs.YtkcmdfeiaafdjaaW.PrintLast Go.Proofs.YtkcmdfeiaafdjaaW.PrintMore
theorem w64 {x : Int} (h : -9000000000000000000 ≤ x ∧ x ≤ 9000000000000000000) : wrap64 x = x := by unfold wrap64; omega
theorem rd_at (l : List Int) (i : Int) (h0 : 0 ≤ i) (h1 : i < l.length) : l[i.toNat]? = some (rd l i) := by
 simp [rd, List.getD_eq_getElem?_getD, List.getElem?_eq_getElem (show i.toNat < l.length by omega)]

theorem gen_to {α β : Type} (l : List α) (hl : (l.length : Int) ≤ 1048576) (F : Nat → List β → Int → Option (List β)) (g : Int → β)
  (hF : ∀ k m i, 0 ≤ i → i < (l.length : Int) → i < (m.length : Int) → F (k + 1) m i = F k (m.set i.toNat (g i)) (wrap64 (i + 1))) (hE : ∀ k m i, ¬ i < (l.length : Int) → F (k + 1) m i = some m)
  (G : α → β) (hg : ∀ (i : Nat) (h : i < l.length), g i = G l[i]) (d : Nat) : ∀ (i : Int) (m : List β), 0 ≤ i → i ≤ l.length → (l.length : Int) - i = d → m.length = l.length →
  (∀ j : Nat, (j : Int) < i → m[j]? = (l.map G)[j]?) → Ev (fun k => F k m i) (l.map G) := by
 induction d with
 | zero =>
  intro i m h0 h1 hd hm hp
  refine Ev.step (f := fun _ => some (l.map G)) (fun k => ?_) (Ev.now _)
  rw [hE k m i (by omega)]
  congr 1
  apply List.ext_getElem?
  intro j
  by_cases hj : j < l.length
  ·exact hp j (by omega)
  ·rw [List.getElem?_eq_none (by omega), List.getElem?_eq_none (by simp; omega)]
 | succ d ih =>
  intro i m h0 h1 hd hm hp
  have ei : wrap64 (i + 1) = i + 1 := w64 (by omega)
  refine Ev.step (fun k => ?_) (ih (i + 1) (m.set i.toNat (g i)) (by omega) (by omega) (by omega) (by simpa using hm) ?_)
  ·rw [hF k m i h0 (by omega) (by omega), ei]
  ·intro j hj
   by_cases e : j = i.toNat
   ·subst e
    rw [List.getElem?_set_self (by omega), List.getElem?_map, List.getElem?_eq_getElem (show i.toNat < l.length by omega)]
    have := hg i.toNat (by omega)
    rw [Int.toNat_of_nonneg h0] at this
    rw [this]
    rfl
   ·rw [List.getElem?_set_ne (by omega)]
    exact hp j (by omega)
theorem gen_eq {n : Nat} (hl : (n : Int) ≤ 1048576) (F : Nat → Int → Option Bool) (hF : ∀ k i, 0 ≤ i → i < (n : Int) → F (k + 1) i = F k (wrap64 (i + 1))) (hE : ∀ k i, ¬ i < (n : Int) → F (k + 1) i = some true)
  (d : Nat) : ∀ (i : Int), 0 ≤ i → i ≤ n → (n : Int) - i = d → Ev (fun k => F k i) true := by
 induction d with
 | zero =>
  intro i h0 h1 hd
  exact Ev.step (f := fun _ => some true) (fun k => hE k i (by omega)) (Ev.now _)
 | succ d ih =>
  intro i h0 h1 hd
  have ei : wrap64 (i + 1) = i + 1 := w64 (by omega)
  refine Ev.step (fun k => ?_) (ih (i + 1) (by omega) (by omega) (by omega))
  rw [hF k i h0 (by omega), ei]
theorem getD_at {α : Type} (l : List α) (z : α) (i : Nat) (h : i < l.length) : l.getD i z = l[i] := by simp [List.getD_eq_getElem?_getD, h]

theorem rd43 (l : List S43) (i : Nat) (h : i < l.length) : rd_T43 l (i : Int) = l[i] := by simp only [rd_T43, Int.toNat_natCast]; exact getD_at _ _ _ h
theorem rd45 (l : List S45) (i : Nat) (h : i < l.length) : rd_T45 l (i : Int) = l[i] := by simp only [rd_T45, Int.toNat_natCast]; exact getD_at _ _ _ h
theorem nxt {i : Nat} (h : (i : Int) ≤ 1048576) : wrap64 ((i : Int) + 1) = ((i + 1 : Nat) : Int) := by rw [w64 (by omega)]; omega

/-! a sub's features: right ones, no two alike -/
def pts (k : Int) : Bool := k == 1 || k == 2 || k == 3 || k == 5
theorem pts_ev (k : Int) : spec_l7Points.f k = some (pts k) := by
 unfold spec_l7Points.f pts
 by_cases h1 : k = 1
 ·simp [h1]
 by_cases h2 : k = 2
 ·simp [h2]
 by_cases h3 : k = 3
 ·simp [h3]
 rw [if_neg h1, if_neg h2, if_neg h3]
 simp [h1, h2, h3]
theorem lin (a b c : Int) : spec_l1In.f a b c = some (decide (b ≤ a) && decide (a ≤ c)) := by
 unfold spec_l1In.f
 by_cases h : a ≥ b
 ·rw [if_pos h]
  simp [show b ≤ a from h]
 ·rw [if_neg h]
  simp [show ¬ b ≤ a from h]
theorem iin (a b c : Int) : impl_in.f a b c = some (decide (b ≤ a) && decide (a ≤ c)) := by
 unfold impl_in.f
 by_cases h : a ≥ b
 ·rw [if_pos h]
  simp [show b ≤ a from h]
 ·rw [if_neg h]
  simp [show ¬ b ≤ a from h]
def fok (n : Int) (f : S45) : Bool := (decide (1 ≤ f.f0) && decide (f.f0 ≤ 7)) && (if pts f.f0 then decide (0 ≤ f.f1) && decide (f.f1 ≤ n - 1) else f.f1 == 0)
def dup (f g : S45) : Bool := g.f0 == f.f0 && (f.f0 != 5 || g.f1 == f.f1)
def chk (n : Int) : List S45 → List S45 → Bool
 | _, [] => true
 | p, f :: r => fok n f && (!(p.any (dup f)) && chk n (p ++ [f]) r)
theorem take_succ' {α : Type} (l : List α) (i : Nat) (h : i < l.length) : l.take i ++ [l[i]] = l.take (i + 1) := by rw [List.take_add_one, List.getElem?_eq_getElem h]; rfl
theorem sp_in (n : Int) (b b' : Bool) (l : List S45) (i : Nat) (hi : i < l.length) (hl : (l.length : Int) ≤ 1048576) (R : Bool) (hR : Ev (fun k => spec_l7Sub.l0 k n ((i + 1 : Nat) : Int) b b' l) R) (d : Nat) :
  ∀ j : Nat, j ≤ i → i - j = d → Ev (fun k => spec_l7Sub.l1 k n i j b b' l l[i].f0 l[i].f1) (!(((l.take i).drop j).any (dup l[i])) && R) := by
 induction d with
 | zero =>
  intro j hj hd
  have e : (l.take i).drop j = [] := List.drop_eq_nil_of_le (by simp; omega)
  rw [e]
  refine Ev.step (fun k => ?_) hR
  simp only [spec_l7Sub.l1]
  rw [if_neg (by omega), nxt (by omega)]
 | succ d ih =>
  intro j hj hd
  have hjl : j < (l.take i).length := by simp; omega
  have e : (l.take i).drop j = l[j] :: (l.take i).drop (j + 1) := by
   rw [List.drop_eq_getElem_cons hjl, List.getElem_take]
  have hn := ih (j + 1) (by omega) (by omega)
  rw [e, List.any_cons]
  have hu : ∀ k, spec_l7Sub.l1 (k + 1) n i j b b' l l[i].f0 l[i].f1 = if l[j].f0 = l[i].f0 then (if l[i].f0 = 5 then (if l[j].f1 = l[i].f1 then some false else spec_l7Sub.l1 k n i ((j + 1 : Nat) : Int) b b' l l[i].f0 l[i].f1) else some false) else spec_l7Sub.l1 k n i ((j + 1 : Nat) : Int) b b' l l[i].f0 l[i].f1 := by
   intro k
   simp only [spec_l7Sub.l1]
   rw [if_pos (by omega), if_pos (by omega), if_pos (by omega), rd45 l j (by omega), nxt (by omega)]
  by_cases h0 : l[j].f0 = l[i].f0
  ·by_cases h5 : l[i].f0 = 5
   ·by_cases h1 : l[j].f1 = l[i].f1
    ·have hd' : dup l[i] l[j] = true := by simp [dup, h0, h1]
     rw [hd']
     exact Ev.step (f := fun _ => some false) (fun k => by rw [hu, if_pos h0, if_pos h5, if_pos h1]) (Ev.now _)
    ·have hd' : dup l[i] l[j] = false := by simp [dup, h0, h1, h5]
     rw [hd', Bool.false_or]
     exact Ev.step (fun k => by rw [hu, if_pos h0, if_pos h5, if_neg h1]) hn
   ·have hd' : dup l[i] l[j] = true := by simp [dup, h0, h5]
    rw [hd']
    exact Ev.step (f := fun _ => some false) (fun k => by rw [hu, if_pos h0, if_neg h5]) (Ev.now _)
  ·have hd' : dup l[i] l[j] = false := by simp [dup, h0]
   rw [hd', Bool.false_or]
   exact Ev.step (fun k => by rw [hu, if_neg h0]) hn
theorem sp_sub (n : Int) (hn : 0 ≤ n ∧ n ≤ 1048576) (b b' : Bool) (l : List S45) (hl : (l.length : Int) ≤ 1048576) (d : Nat) : ∀ i : Nat, i ≤ l.length → l.length - i = d → Ev (fun k => spec_l7Sub.l0 k n i b b' l) (chk n (l.take i) (l.drop i)) := by
 induction d with
 | zero =>
  intro i hi hd
  rw [List.drop_eq_nil_of_le (by omega)]
  refine Ev.step (f := fun _ => some true) (fun k => ?_) (Ev.now _)
  simp only [spec_l7Sub.l0]
  rw [if_neg (by omega)]
 | succ d ih =>
  intro i hi hd
  have hil : i < l.length := by omega
  have hR := ih (i + 1) (by omega) (by omega)
  rw [List.drop_eq_getElem_cons hil, chk, take_succ' l i hil]
  have hI := sp_in n b b' l i hil hl _ hR i 0 (by omega) (by omega)
  rw [List.drop_zero] at hI
  have ew : wrap64 (n - 1) = n - 1 := w64 (by omega)
  have hu : ∀ k, spec_l7Sub.l0 (k + 1) n i b b' l = spec_l7Sub.j1 k n i (!(fok n l[i])) b b' l l[i].f0 l[i].f1 := by
   intro k
   simp only [spec_l7Sub.l0]
   rw [if_pos (by omega), if_pos (by omega), rd45 l i hil, lin, pts_ev, lin, ew]
   simp only [Option.bind_some, fok]
   cases decide (1 ≤ l[i].f0) && decide (l[i].f0 ≤ 7) <;> cases pts l[i].f0 <;> cases decide (0 ≤ l[i].f1) && decide (l[i].f1 ≤ n - 1) <;> simp <;> rfl
  refine Ev.step hu ?_
  cases hf : fok n l[i]
  ·exact Ev.step (f := fun _ => some false) (fun k => by simp [spec_l7Sub.j1]) (Ev.now _)
  ·refine Ev.step (fun k => ?_) hI
   simp only [spec_l7Sub.j1]
   rw [if_neg (by decide)]
   rfl
def key (f : S45) : S45 := if f.f0 = 1 ∨ f.f0 = 2 ∨ f.f0 = 3 then ⟨f.f0, 0⟩ else f
theorem key_eq {n : Int} {f g : S45} (hf : fok n f = true) (hg : fok n g = true) : (key f = key g) ↔ dup f g = true := by
 obtain ⟨a, b⟩ := f
 obtain ⟨a', b'⟩ := g
 simp only [fok, pts, Bool.and_eq_true, decide_eq_true_eq] at hf hg
 unfold key dup
 constructor
 ·intro h
  by_cases c : a = 1 ∨ a = 2 ∨ a = 3 <;> by_cases c' : a' = 1 ∨ a' = 2 ∨ a' = 3
  ·simp only [if_pos c, if_pos c', S45.mk.injEq] at h
   simp only [h.1, beq_self_eq_true, Bool.true_and, Bool.or_eq_true, bne_iff_ne]
   left
   omega
  ·simp only [if_pos c, if_neg c', S45.mk.injEq] at h
   omega
  ·simp only [if_neg c, if_pos c', S45.mk.injEq] at h
   omega
  ·simp only [if_neg c, if_neg c', S45.mk.injEq] at h
   simp [h.1, h.2]
 ·intro h
  simp only [Bool.and_eq_true, Bool.or_eq_true, beq_iff_eq, bne_iff_ne] at h
  obtain ⟨rfl, h⟩ := h
  by_cases c : a' = 1 ∨ a' = 2 ∨ a' = 3
  ·simp only [if_pos c]
  ·simp only [if_neg c, S45.mk.injEq, true_and]
   rcases h with h | h
   ·have hp : (a' == 1 || a' == 2 || a' == 3 || a' == 5) = false := by simp; omega
    simp only [hp, Bool.false_eq_true, if_false, beq_iff_eq] at hf hg
    omega
   ·exact h.symm
theorem key_mem {n : Int} {f : S45} {p : List S45} (hf : fok n f = true) (hp : ∀ g ∈ p, fok n g = true) : decide (key f ∈ p.map key) = p.any (dup f) := by
 rw [Bool.eq_iff_iff]
 simp only [decide_eq_true_eq, List.mem_map, List.any_eq_true]
 constructor
 ·rintro ⟨g, hg, e⟩
  exact ⟨g, hg, (key_eq hf (hp g hg)).mp e.symm⟩
 ·rintro ⟨g, hg, e⟩
  exact ⟨g, hg, ((key_eq hf (hp g hg)).mpr e).symm⟩
theorem im_sub (X : List S43) (hX : (X.length : Int) ≤ 1048576) (x14 x15 : Int) (l : List S45) (hl : (l.length : Int) ≤ 1048576) (R : Bool) (hR : Ev (fun k => impl_SubsOk.l0 k X X x14 (wrap64 (x15 + 1))) R) (d : Nat) :
  ∀ i : Nat, i ≤ l.length → l.length - i = d → (∀ g ∈ l.take i, fok X.length g = true) → Ev (fun k => impl_SubsOk.l1 k X ((l.take i).map key) X x14 x15 l (l.length : Int) i) (chk X.length (l.take i) (l.drop i) && R) := by
 induction d with
 | zero =>
  intro i hi hd hp
  rw [List.drop_eq_nil_of_le (by omega), chk, Bool.true_and]
  refine Ev.step (fun k => ?_) hR
  simp only [impl_SubsOk.l1]
  rw [if_neg (by omega)]
 | succ d ih =>
  intro i hi hd hp
  have hil : i < l.length := by omega
  have hnx : fok X.length l[i] = true → Ev (fun k => impl_SubsOk.l1 k X ((l.take i).map key ++ [key l[i]]) X x14 x15 l (l.length : Int) ((i + 1 : Nat) : Int)) (chk X.length (l.take (i + 1)) (l.drop (i + 1)) && R) := by
   intro hf
   have := ih (i + 1) (by omega) (by omega) (fun g hg => by
    rw [← take_succ' l i hil] at hg
    rcases List.mem_append.mp hg with h | h
    ·exact hp g h
    ·rw [List.mem_singleton] at h
     subst h
     exact hf)
   rwa [← take_succ' l i hil, List.map_append, List.map_singleton, take_succ' l i hil] at this
  rw [List.drop_eq_getElem_cons hil, chk, take_succ' l i hil]
  have ew : wrap64 ((X.length : Int) - 1) = (X.length : Int) - 1 := w64 (by omega)
  have hlen : ((l.take i).map key).length < 8796093022208 := by simp; omega
  have hs : ∀ f : S45, runtime_boundsError_RuntimeError.f ((l.take i).map key) f.f0 f.f1 = some (decide (f ∈ (l.take i).map key)) := fun _ => rfl
  have hfin : fok X.length l[i] = true → ∀ q : Bool, q = decide (key l[i] ∈ (l.take i).map key) → Ev (fun k => if q = true then some false else if ((l.take i).map key).length < 8796093022208 then impl_SubsOk.l1 k X ((l.take i).map key ++ [key l[i]]) X x14 x15 l (l.length : Int) (wrap64 ((i : Int) + 1)) else none) (fok X.length l[i] && (!((l.take i).any (dup l[i])) && chk X.length (l.take (i + 1)) (l.drop (i + 1))) && R) := by
   intro hf q hq
   rw [key_mem hf hp] at hq
   rw [hf, ← hq, nxt (by omega)]
   cases q
   ·simp only [Bool.false_eq_true, if_false, if_pos hlen, Bool.true_and, Bool.not_false]
    exact hnx hf
   ·exact Ev.now _
  obtain ⟨a, ha⟩ : ∃ a, a = l[i].f0 := ⟨_, rfl⟩
  obtain ⟨b, hb⟩ : ∃ b, b = l[i].f1 := ⟨_, rfl⟩
  have hu : ∀ k, impl_SubsOk.l1 (k + 1) X ((l.take i).map key) X x14 x15 l (l.length : Int) i = impl_SubsOk.j2 k X ((l.take i).map key) X x14 x15 l (l.length : Int) i a (pts a) a b a b := by
   intro k
   simp only [impl_SubsOk.l1]
   rw [if_pos (by omega), if_pos (by omega), if_pos (by omega), rd45 l i hil, ← ha, ← hb]
   by_cases h1 : a = 1
   ·rw [if_pos h1]
    simp [h1, pts]
   by_cases h2 : a = 2
   ·rw [if_neg h1, if_pos h2]
    simp [h2, pts]
   by_cases h3 : a = 3
   ·rw [if_neg h1, if_neg h2, if_pos h3]
    simp [h3, pts]
   rw [if_neg h1, if_neg h2, if_neg h3]
   have e : pts a = (a == 5) := by simp [h1, h2, h3, pts]
   rw [e]
  refine Ev.step hu ?_
  have hfok : fok X.length l[i] = ((decide (1 ≤ a) && decide (a ≤ 7)) && (if pts a then decide (0 ≤ b) && decide (b ≤ (X.length : Int) - 1) else b == 0)) := by rw [ha, hb]; rfl
  have hfalse : fok X.length l[i] = false → Ev (fun _ => some false) (fok X.length l[i] && (!((l.take i).any (dup l[i])) && chk X.length (l.take (i + 1)) (l.drop (i + 1))) && R) := by
   intro h
   rw [h]
   exact Ev.now _
  cases hpa : pts a
  ·rw [hpa] at hfok
   have hna : ¬ (a = 1 ∨ a = 2 ∨ a = 3 ∨ a = 5) := by simpa [pts, not_or, and_assoc] using hpa
   have hkey : key l[i] = ⟨a, b⟩ := by
    unfold key
    rw [← ha, if_neg (by omega), ha, hb]
   have hj : ∀ k, impl_SubsOk.j2 (k + 1) X ((l.take i).map key) X x14 x15 l (l.length : Int) i a false a b a b = impl_SubsOk.j3 k X ((l.take i).map key) X x14 x15 l (l.length : Int) i (a == 4 || a == 6 || a == 7) a b a b := by
    intro k
    simp only [impl_SubsOk.j2]
    rw [if_neg (by decide)]
    by_cases h4 : a = 4
    ·rw [if_pos h4]
     simp [h4]
    by_cases h6 : a = 6
    ·rw [if_neg h4, if_pos h6]
     simp [h6]
    rw [if_neg h4, if_neg h6]
    have e : (a == 4 || a == 6 || a == 7) = (a == 7) := by simp [h4, h6]
    rw [e]
   refine Ev.step hj ?_
   by_cases h467 : a = 4 ∨ a = 6 ∨ a = 7
   ·have e : (a == 4 || a == 6 || a == 7) = true := by simpa [or_assoc] using h467
    rw [e]
    by_cases hb0 : b = 0
    ·have hf : fok X.length l[i] = true := by
      rw [hfok]
      simp [hb0]
      omega
     refine Ev.step (fun k => ?_) (hfin hf _ rfl)
     simp only [impl_SubsOk.j3]
     rw [if_pos trivial, if_pos hb0, hs ⟨a, b⟩, Option.bind_some, hkey]
    ·have hf : fok X.length l[i] = false := by
      rw [hfok]
      simp [hb0]
     refine Ev.step (fun k => ?_) (hfalse hf)
     simp only [impl_SubsOk.j3]
     rw [if_pos trivial, if_neg hb0]
   ·have e : (a == 4 || a == 6 || a == 7) = false := by simpa [not_or, and_assoc] using h467
    rw [e]
    have hf : fok X.length l[i] = false := by
     rw [hfok]
     have : (decide (1 ≤ a) && decide (a ≤ 7)) = false := by
      rw [Bool.eq_false_iff]
      simp only [ne_eq, Bool.and_eq_true, decide_eq_true_eq]
      omega
     rw [this]
     rfl
    refine Ev.step (fun k => ?_) (hfalse hf)
    simp only [impl_SubsOk.j3]
    rw [if_neg (by decide)]
  ·rw [hpa] at hfok
   have hya : a = 1 ∨ a = 2 ∨ a = 3 ∨ a = 5 := by simpa [pts, or_assoc] using hpa
   have h17 : (decide (1 ≤ a) && decide (a ≤ 7)) = true := by simp; omega
   rw [h17, Bool.true_and, if_pos rfl] at hfok
   cases hbb : decide (0 ≤ b) && decide (b ≤ (X.length : Int) - 1)
   ·refine Ev.step (fun k => ?_) (hfalse (hfok.trans hbb))
    simp only [impl_SubsOk.j2]
    rw [if_pos trivial, iin, ew, hbb, Option.bind_some, if_neg (by decide)]
   ·by_cases h5 : a = 5
    ·have hkey : key l[i] = ⟨a, b⟩ := by
      unfold key
      rw [← ha, if_neg (by omega), ha, hb]
     refine Ev.step (fun k => ?_) (hfin (hfok.trans hbb) _ rfl)
     simp only [impl_SubsOk.j2]
     rw [if_pos trivial, iin, ew, hbb, Option.bind_some, if_pos rfl, if_pos h5, hs ⟨a, b⟩, Option.bind_some, hkey]
    ·have hkey : key l[i] = ⟨a, 0⟩ := by
      unfold key
      rw [← ha, if_pos (by omega)]
     refine Ev.step (fun k => ?_) (hfin (hfok.trans hbb) _ rfl)
     simp only [impl_SubsOk.j2]
     rw [if_pos trivial, iin, ew, hbb, Option.bind_some, if_pos rfl, if_neg h5, hs ⟨a, 0⟩, Option.bind_some, hkey]
/-! subs -/
def lenOk (L : List S43) : Bool := decide (1 ≤ (L.length : Int)) && decide ((L.length : Int) ≤ 16)
def allOk (L r : List S43) : Bool := r.all fun s => chk L.length [] s.f2
def subsOk (L : List S43) : Bool := lenOk L && allOk L L
theorem sp_all (L : List S43) (hL : (L.length : Int) ≤ 1048576) (hf : ∀ s ∈ L, (s.f2.length : Int) ≤ 1048576) (d : Nat) : ∀ i : Nat, i ≤ L.length → L.length - i = d → Ev (fun k => spec_SubsOk.l0 k L i) (allOk L (L.drop i) && lenOk L) := by
 induction d with
 | zero =>
  intro i hi hd
  rw [List.drop_eq_nil_of_le (by omega)]
  refine Ev.step (f := fun _ => some (lenOk L)) (fun k => ?_) (Ev.now _)
  simp only [spec_SubsOk.l0]
  rw [if_neg (by omega), lin]
  rfl
 | succ d ih =>
  intro i hi hd
  have hil : i < L.length := by omega
  rw [List.drop_eq_getElem_cons hil]
  have hS : Ev (fun k => spec_l7Sub.f k L[i].f0 L[i].f1 L[i].f2 (L.length : Int)) (chk L.length [] L[i].f2) := by
   have := sp_sub L.length (by omega) L[i].f0 L[i].f1 L[i].f2 (hf _ (List.getElem_mem hil)) L[i].f2.length 0 (by omega) (by omega)
   exact Ev.congr (fun k => rfl) this
  refine Ev.step (f := fun k => (spec_l7Sub.f k L[i].f0 L[i].f1 L[i].f2 (L.length : Int)).bind fun t => if t = true then spec_SubsOk.l0 k L ((i + 1 : Nat) : Int) else some false) (fun k => ?_) (Ev.bind hS ?_)
  ·simp only [spec_SubsOk.l0]
   rw [if_pos (by omega), if_pos (by omega), rd43 L i hil, nxt (by omega)]
  ·cases hc : chk L.length [] L[i].f2
   ·simp only [allOk, List.all_cons, hc, Bool.false_and]
    exact Ev.now _
   ·simp only [allOk, List.all_cons, hc, Bool.true_and, if_true]
    exact ih (i + 1) (by omega) (by omega)
theorem sp_ok (L : List S43) (hL : (L.length : Int) ≤ 1048576) (hf : ∀ s ∈ L, (s.f2.length : Int) ≤ 1048576) : Ev (fun k => spec_SubsOk.f k L) (subsOk L) := by
 have := sp_all L hL hf L.length 0 (by omega) (by omega)
 rw [List.drop_zero, Bool.and_comm] at this
 exact Ev.congr (fun k => rfl) this
theorem im_all (L : List S43) (hL : (L.length : Int) ≤ 1048576) (hf : ∀ s ∈ L, (s.f2.length : Int) ≤ 1048576) (d : Nat) : ∀ i : Nat, i ≤ L.length → L.length - i = d → Ev (fun k => impl_SubsOk.l0 k L L (L.length : Int) i) (allOk L (L.drop i)) := by
 induction d with
 | zero =>
  intro i hi hd
  rw [List.drop_eq_nil_of_le (by omega)]
  refine Ev.step (f := fun _ => some true) (fun k => ?_) (Ev.now _)
  simp only [impl_SubsOk.l0]
  rw [if_neg (by omega)]
 | succ d ih =>
  intro i hi hd
  have hil : i < L.length := by omega
  rw [List.drop_eq_getElem_cons hil]
  have hR := ih (i + 1) (by omega) (by omega)
  rw [← nxt (i := i) (by omega)] at hR
  have := im_sub L hL (L.length : Int) i L[i].f2 (hf _ (List.getElem_mem hil)) _ hR L[i].f2.length 0 (by omega) (by omega) (fun g hg => by simp at hg)
  refine Ev.step (fun k => ?_) this
  simp only [impl_SubsOk.l0]
  rw [if_pos (by omega), if_pos (by omega), if_pos (by omega), rd43 L i hil]
  rfl
theorem im_ok (L : List S43) (hL : (L.length : Int) ≤ 1048576) (hf : ∀ s ∈ L, (s.f2.length : Int) ≤ 1048576) : Ev (fun k => impl_SubsOk.f k L) (subsOk L) := by
 cases hl : lenOk L
 ·refine Ev.congr (f := fun _ => some false) (fun k => ?_) (by unfold subsOk; rw [hl]; exact Ev.now _)
  unfold impl_SubsOk.f
  rw [iin]
  unfold lenOk at hl
  rw [hl, Option.bind_some, if_neg (by decide)]
 ·have := im_all L hL hf L.length 0 (by omega) (by omega)
  rw [List.drop_zero] at this
  unfold subsOk
  rw [hl, Bool.true_and]
  refine Ev.congr (fun k => ?_) this
  unfold impl_SubsOk.f
  rw [iin]
  unfold lenOk at hl
  rw [hl, Option.bind_some, if_pos rfl]
  rfl

/-! what a sub has; where a call goes -/
def hasO (l : List S45) (kind : Int) : Option Int := (l.find? (fun f => f.f0 == kind)).map (fun f => f.f1)
theorem sp_has (l : List S45) (hl : (l.length : Int) ≤ 1048576) (kind : Int) (b b' : Bool) : Ev (fun k => spec_l7Has.f k b b' l kind) ((hasO l kind).getD (-1)) := by
 have hB : ∀ d i : Nat, i ≤ l.length → l.length - i = d → Ev (fun k => spec_l7Has.l0 k kind i b b' l) ((hasO (l.drop i) kind).getD (-1)) := by
  intro d
  induction d with
  | zero =>
   intro i hi hd
   rw [List.drop_eq_nil_of_le (by omega)]
   refine Ev.step (f := fun _ => some (-1)) (fun k => ?_) (Ev.now _)
   simp only [spec_l7Has.l0]
   rw [if_neg (by omega)]
  | succ d ih =>
   intro i hi hd
   have hil : i < l.length := by omega
   rw [List.drop_eq_getElem_cons hil]
   have hu : ∀ k, spec_l7Has.l0 (k + 1) kind i b b' l = if l[i].f0 = kind then some l[i].f1 else spec_l7Has.l0 k kind ((i + 1 : Nat) : Int) b b' l := by
    intro k
    simp only [spec_l7Has.l0]
    rw [if_pos (by omega), if_pos (by omega), rd45 l i hil, nxt (by omega)]
   by_cases h : l[i].f0 = kind
   ·have e : hasO (l[i] :: l.drop (i + 1)) kind = some l[i].f1 := by unfold hasO; rw [List.find?_cons_of_pos (by simp [h])]; rfl
    rw [e]
    exact Ev.step (f := fun _ => some l[i].f1) (fun k => by rw [hu, if_pos h]) (Ev.now _)
   ·have e : hasO (l[i] :: l.drop (i + 1)) kind = hasO (l.drop (i + 1)) kind := by unfold hasO; rw [List.find?_cons_of_neg (by simp [h])]
    rw [e]
    exact Ev.step (fun k => by rw [hu, if_neg h]) (ih (i + 1) (by omega) (by omega))
 have := hB l.length 0 (by omega) (by omega)
 rw [List.drop_zero] at this
 exact Ev.congr (fun k => rfl) this
theorem im_has (l : List S45) (hl : (l.length : Int) ≤ 1048576) (kind : Int) (b b' : Bool) : Ev (fun k => impl_Sub_has.f k b b' l kind (-1) (-1)) ((hasO l kind).getD 0, (hasO l kind).isSome) := by
 have hB : ∀ d i : Nat, i ≤ l.length → l.length - i = d → Ev (fun k => impl_Sub_has.l0 k kind (-1) (-1) l (l.length : Int) i) ((hasO (l.drop i) kind).getD 0, (hasO (l.drop i) kind).isSome) := by
  intro d
  induction d with
  | zero =>
   intro i hi hd
   rw [List.drop_eq_nil_of_le (by omega)]
   refine Ev.step (f := fun _ => some (0, false)) (fun k => ?_) (Ev.now _)
   simp only [impl_Sub_has.l0]
   rw [if_neg (by omega)]
  | succ d ih =>
   intro i hi hd
   have hil : i < l.length := by omega
   rw [List.drop_eq_getElem_cons hil]
   have hu : ∀ k, impl_Sub_has.l0 (k + 1) kind (-1) (-1) l (l.length : Int) i = if l[i].f0 = kind then some (l[i].f1, true) else impl_Sub_has.l0 k kind (-1) (-1) l (l.length : Int) ((i + 1 : Nat) : Int) := by
    intro k
    simp only [impl_Sub_has.l0]
    rw [if_pos (by omega), if_pos (by omega), if_pos (by omega), rd45 l i hil, nxt (by omega)]
    have e : ¬ (i : Int) = -1 := by omega
    simp only [if_neg e]
   by_cases h : l[i].f0 = kind
   ·have e : hasO (l[i] :: l.drop (i + 1)) kind = some l[i].f1 := by unfold hasO; rw [List.find?_cons_of_pos (by simp [h])]; rfl
    rw [e]
    exact Ev.step (f := fun _ => some (l[i].f1, true)) (fun k => by rw [hu, if_pos h]) (Ev.now _)
   ·have e : hasO (l[i] :: l.drop (i + 1)) kind = hasO (l.drop (i + 1)) kind := by unfold hasO; rw [List.find?_cons_of_neg (by simp [h])]
    rw [e]
    exact Ev.step (fun k => by rw [hu, if_neg h]) (ih (i + 1) (by omega) (by omega))
 have := hB l.length 0 (by omega) (by omega)
 rw [List.drop_zero] at this
 exact Ev.congr (fun k => rfl) this
theorem chk_mem {n : Int} : ∀ {l p : List S45}, chk n p l = true → ∀ f ∈ l, fok n f = true
 | [], _, _, f, hf => by cases hf
 | a :: r, p, h, f, hf => by
  simp only [chk, Bool.and_eq_true] at h
  rcases List.mem_cons.mp hf with rfl | hf
  ·exact h.1
  ·exact chk_mem h.2.2 f hf
theorem has_in {n : Int} {l : List S45} (h : ∀ f ∈ l, fok n f = true) {kind o : Int} (ho : hasO l kind = some o) : 0 ≤ o ∧ (pts kind = true → o ≤ n - 1) := by
 unfold hasO at ho
 obtain ⟨f, hf, rfl⟩ := Option.map_eq_some_iff.mp ho
 have hk : f.f0 = kind := by simpa using List.find?_some hf
 have := h f (List.mem_of_find?_eq_some hf)
 subst hk
 unfold fok at this
 cases hp : pts f.f0
 ·rw [hp] at this
  simp at this
  exact ⟨by omega, fun h => by cases h⟩
 ·rw [hp] at this
  simp at this
  exact ⟨by omega, fun _ => by omega⟩
theorem has_dec {n : Int} {l : List S45} (h : ∀ f ∈ l, fok n f = true) (kind : Int) : decide ((hasO l kind).getD (-1) ≥ 0) = (hasO l kind).isSome := by
 cases ho : hasO l kind with
 | none => rfl
 | some o =>
  have := (has_in h ho).1
  simp [this]
theorem sp_within (l : List Int) (hl : (l.length : Int) ≤ 1048576) (x : Int) : Ev (fun k => spec_l7Within.f k l x) (l.any (· == x)) := by
 have hB : ∀ d i : Nat, i ≤ l.length → l.length - i = d → Ev (fun k => spec_l7Within.l0 k l x i) ((l.drop i).any (· == x)) := by
  intro d
  induction d with
  | zero =>
   intro i hi hd
   rw [List.drop_eq_nil_of_le (by omega)]
   refine Ev.step (f := fun _ => some false) (fun k => ?_) (Ev.now _)
   simp only [spec_l7Within.l0]
   rw [if_neg (by omega)]
  | succ d ih =>
   intro i hi hd
   have hil : i < l.length := by omega
   have er : rd l (i : Int) = l[i] := by simp only [rd, Int.toNat_natCast]; exact getD_at _ _ _ hil
   rw [List.drop_eq_getElem_cons hil, List.any_cons]
   have hu : ∀ k, spec_l7Within.l0 (k + 1) l x i = if l[i] = x then some true else spec_l7Within.l0 k l x ((i + 1 : Nat) : Int) := by
    intro k
    simp only [spec_l7Within.l0]
    rw [if_pos (by omega), if_pos (by omega), er, nxt (by omega)]
   by_cases h : l[i] = x
   ·have e : (l[i] == x) = true := by simp [h]
    rw [e]
    exact Ev.step (f := fun _ => some true) (fun k => by rw [hu, if_pos h]) (Ev.now _)
   ·have e : (l[i] == x) = false := by simp [h]
    rw [e, Bool.false_or]
    exact Ev.step (fun k => by rw [hu, if_neg h]) (ih (i + 1) (by omega) (by omega))
 have := hB l.length 0 (by omega) (by omega)
 rw [List.drop_zero] at this
 exact Ev.congr (fun k => rfl) this
theorem im_contains (l : List Int) (hl : (l.length : Int) ≤ 1048576) (x : Int) : Ev (fun k => slices_Contains_int_int.f k l x) (l.any (· == x)) := by
 have hB : ∀ d i : Nat, i ≤ l.length → l.length - i = d → ∃ t, Ev (fun k => slices_Index_int_int.l0 k l x (l.length : Int) i) t ∧ decide (t ≥ 0) = (l.drop i).any (· == x) := by
  intro d
  induction d with
  | zero =>
   intro i hi hd
   rw [List.drop_eq_nil_of_le (by omega)]
   refine ⟨-1, Ev.step (f := fun _ => some (-1)) (fun k => ?_) (Ev.now _), rfl⟩
   simp only [slices_Index_int_int.l0]
   rw [if_neg (by omega)]
  | succ d ih =>
   intro i hi hd
   have hil : i < l.length := by omega
   have er : rd l (i : Int) = l[i] := by simp only [rd, Int.toNat_natCast]; exact getD_at _ _ _ hil
   rw [List.drop_eq_getElem_cons hil, List.any_cons]
   have hu : ∀ k, slices_Index_int_int.l0 (k + 1) l x (l.length : Int) i = if x = l[i] then some (i : Int) else slices_Index_int_int.l0 k l x (l.length : Int) ((i + 1 : Nat) : Int) := by
    intro k
    simp only [slices_Index_int_int.l0]
    rw [if_pos (by omega), if_pos (by omega), if_pos (by omega), er, nxt (by omega)]
   by_cases h : x = l[i]
   ·have e : (l[i] == x) = true := by simp [h]
    rw [e]
    exact ⟨i, Ev.step (f := fun _ => some (i : Int)) (fun k => by rw [hu, if_pos h]) (Ev.now _), by simp⟩
   ·have e : (l[i] == x) = false := by simpa using fun h' => h h'.symm
    obtain ⟨t, ht, hd'⟩ := ih (i + 1) (by omega) (by omega)
    rw [e, Bool.false_or]
    exact ⟨t, Ev.step (fun k => by rw [hu, if_neg h]) ht, hd'⟩
 obtain ⟨t, ht, hd⟩ := hB l.length 0 (by omega) (by omega)
 rw [List.drop_zero] at hd
 refine Ev.congr (f := fun k => (slices_Index_int_int.l0 k l x (l.length : Int) 0).bind fun t => some (decide (t ≥ 0))) (fun k => rfl) (Ev.bind ht ?_)
 rw [hd]
 exact Ev.now _
def scr (l : List S45) (fr : Int) (pv : Bool) : Bool := l.any fun f => f.f0 == 5 && (pv || f.f1 == fr)
theorem sp_scr (L : List S43) (fr : Int) (a : Nat) (ha : a < L.length) (pv : Bool) (hf : (L[a].f2.length : Int) ≤ 1048576) : Ev (fun k => spec_l7Screened.l0 k L fr a pv 0) (scr L[a].f2 fr pv) := by
 have hB : ∀ d i : Nat, i ≤ L[a].f2.length → L[a].f2.length - i = d → Ev (fun k => spec_l7Screened.l0 k L fr a pv i) (scr (L[a].f2.drop i) fr pv) := by
  intro d
  induction d with
  | zero =>
   intro i hi hd
   rw [List.drop_eq_nil_of_le (by omega)]
   refine Ev.step (f := fun _ => some false) (fun k => ?_) (Ev.now _)
   simp only [spec_l7Screened.l0]
   rw [if_pos (by omega), if_pos (by omega), rd43 L a ha, if_neg (by omega)]
  | succ d ih =>
   intro i hi hd
   have hil : i < L[a].f2.length := by omega
   rw [List.drop_eq_getElem_cons hil]
   have hn := ih (i + 1) (by omega) (by omega)
   have hu : ∀ k, spec_l7Screened.l0 (k + 1) L fr a pv i = if (L[a].f2[i].f0 == 5 && (pv || L[a].f2[i].f1 == fr)) = true then some true else spec_l7Screened.l0 k L fr a pv ((i + 1 : Nat) : Int) := by
    intro k
    simp only [spec_l7Screened.l0]
    rw [if_pos (by omega), if_pos (by omega), rd43 L a ha, if_pos (by omega), if_pos (by omega), rd45 _ i hil, nxt (by omega)]
    by_cases h5 : L[a].f2[i].f0 = 5 <;> cases pv <;> by_cases h1 : L[a].f2[i].f1 = fr <;> simp [h5, h1]
   have e : scr (L[a].f2[i] :: L[a].f2.drop (i + 1)) fr pv = ((L[a].f2[i].f0 == 5 && (pv || L[a].f2[i].f1 == fr)) || scr (L[a].f2.drop (i + 1)) fr pv) := rfl
   rw [e]
   cases hc : (L[a].f2[i].f0 == 5 && (pv || L[a].f2[i].f1 == fr))
   ·rw [Bool.false_or]
    exact Ev.step (fun k => by rw [hu, hc, if_neg (by decide)]) hn
   ·exact Ev.step (f := fun _ => some true) (fun k => by rw [hu, hc, if_pos rfl]) (Ev.now _)
 have := hB L[a].f2.length 0 (by omega) (by omega)
 rw [List.drop_zero] at this
 exact this
theorem im_scr (L : List S43) (fr : Int) (l : List S45) (a : Nat) (pv : Bool) (hops : List Int) (hf : (l.length : Int) ≤ 1048576) (R : Int × Int × List Int)
  (hR : scr l fr pv = false → Ev (fun k => (impl_route_1.f k a 1 (-1) L (-1) (-1)).bind fun q => if q.2 = true then impl_route.j3 k fr pv q.1 q.2 false L (-1) (-1) (-1) hops a else if 0 ≤ (a : Int) then (if (a : Int) < (L.length : Int) then impl_route.j3 k fr pv q.1 q.2 (rd_T43 L a).f0 L (-1) (-1) (-1) hops a else none) else none) R) :
  Ev (fun k => impl_route.l1 k fr pv false l (l.length : Int) 0 L (-1) (-1) (-1) hops a) (if scr l fr pv = true then (6, (a : Int), hops) else R) := by
 have hB : ∀ (d i : Nat) (x : Bool), i ≤ l.length → l.length - i = d → (x || scr (l.drop i) fr pv) = scr l fr pv → Ev (fun k => impl_route.l1 k fr pv x l (l.length : Int) i L (-1) (-1) (-1) hops a) (if scr l fr pv = true then (6, (a : Int), hops) else R) := by
  intro d
  induction d with
  | zero =>
   intro i x hi hd hx
   rw [List.drop_eq_nil_of_le (by omega)] at hx
   have hx' : scr l fr pv = x := by rw [← hx]; simp [scr]
   have hu : ∀ k, impl_route.l1 (k + 1) fr pv x l (l.length : Int) i L (-1) (-1) (-1) hops a = if x = true then some (6, (a : Int), hops) else (impl_route_1.f k a 1 (-1) L (-1) (-1)).bind fun q => if q.2 = true then impl_route.j3 k fr pv q.1 q.2 false L (-1) (-1) (-1) hops a else if 0 ≤ (a : Int) then (if (a : Int) < (L.length : Int) then impl_route.j3 k fr pv q.1 q.2 (rd_T43 L a).f0 L (-1) (-1) (-1) hops a else none) else none := by
    intro k
    simp only [impl_route.l1]
    rw [if_neg (by omega)]
   rw [hx']
   cases x
   ·exact Ev.step (fun k => by rw [hu, if_neg (by decide)]) (hR hx')
   ·exact Ev.step (f := fun _ => some (6, (a : Int), hops)) (fun k => by rw [hu, if_pos rfl]) (Ev.now _)
  | succ d ih =>
   intro i x hi hd hx
   have hil : i < l.length := by omega
   rw [List.drop_eq_getElem_cons hil] at hx
   have e : scr (l[i] :: l.drop (i + 1)) fr pv = ((l[i].f0 == 5 && (pv || l[i].f1 == fr)) || scr (l.drop (i + 1)) fr pv) := rfl
   rw [e, ← Bool.or_assoc] at hx
   refine Ev.step (fun k => ?_) (ih (i + 1) (x || (l[i].f0 == 5 && (pv || l[i].f1 == fr))) (by omega) (by omega) hx)
   simp only [impl_route.l1]
   have ea : ¬ (a : Int) = -1 := by omega
   rw [if_pos (by omega), if_pos (by omega), if_pos (by omega), rd45 _ i hil, nxt (by omega)]
   simp only [if_neg ea]
   rw [show (l[i].f0 == 5) = decide (l[i].f0 = 5) from rfl, show (l[i].f1 == fr) = decide (l[i].f1 = fr) from rfl]
   by_cases h5 : l[i].f0 = 5 <;> cases pv <;> by_cases h1 : l[i].f1 = fr <;> simp only [h5, h1, if_true, if_false, decide_true, decide_false, Bool.or_true, Bool.or_false, Bool.true_or, Bool.false_or, Bool.and_true, Bool.and_false, Bool.true_and, Bool.false_and, Bool.false_eq_true]
 exact hB l.length 0 false (by omega) (by omega) (by rw [List.drop_zero, Bool.false_or])
def rt (L : List S43) (fr : Int) (pv : Bool) : Nat → List Int → Int → Int × Int × List Int
 | 0, hops, a => (7, a, hops)
 | d + 1, hops, a =>
  if (decide (a = fr) || (hops.any (· == a) || decide ((hops.length : Int) > 5))) = true then (7, a, hops) else
  if scr (rd_T43 L a).f2 fr pv = true then (6, a, hops) else
  match hasO (rd_T43 L a).f2 1 with
  | some o => rt L fr pv d (hops ++ [a]) o
  | none =>
   if (rd_T43 L a).f0 = true then
    (if (hasO (rd_T43 L a).f2 6).isSome = true then (2, a, hops) else
     match hasO (rd_T43 L a).f2 2 with
     | some o => rt L fr pv d (hops ++ [a]) o
     | none => (3, a, hops))
   else if (rd_T43 L a).f1 = true then
    (match hasO (rd_T43 L a).f2 3 with
     | some o => rt L fr pv d (hops ++ [a]) o
     | none => (4, a, hops))
   else (1, a, hops)

/-! the way of a call -/
structure OkS (L : List S43) : Prop where
 len : (L.length : Int) ≤ 1048576
 feats : ∀ s ∈ L, (s.f2.length : Int) ≤ 1048576
 all : ∀ s ∈ L, ∀ f ∈ s.f2, fok L.length f = true
theorem OkS.of (L : List S43) (hL : (L.length : Int) ≤ 1048576) (hf : ∀ s ∈ L, (s.f2.length : Int) ≤ 1048576) (h : subsOk L = true) : OkS L := by
 refine ⟨hL, hf, fun s hs f hf' => ?_⟩
 simp only [subsOk, allOk, Bool.and_eq_true, List.all_eq_true] at h
 exact chk_mem (h.2 s hs) f hf'
section
variable {L : List S43} (ok : OkS L)
include ok
theorem OkS.has_at (a : Nat) (ha : a < L.length) (kind : Int) : Ev (fun k => spec_l7Has.f k L[a].f0 L[a].f1 L[a].f2 kind) ((hasO L[a].f2 kind).getD (-1)) := sp_has _ (ok.feats _ (List.getElem_mem ha)) _ _ _
theorem OkS.dec (a : Nat) (ha : a < L.length) (kind : Int) : decide ((hasO L[a].f2 kind).getD (-1) ≥ 0) = (hasO L[a].f2 kind).isSome := has_dec (ok.all _ (List.getElem_mem ha)) kind
theorem OkS.pos (a : Nat) (ha : a < L.length) {kind o : Int} (h : hasO L[a].f2 kind = some o) : 0 ≤ o := (has_in (ok.all _ (List.getElem_mem ha)) h).1
theorem OkS.to (a : Nat) (ha : a < L.length) {kind o : Int} (h : hasO L[a].f2 kind = some o) (hp : pts kind = true) : ∃ b : Nat, b < L.length ∧ o = (b : Int) := by
 have := has_in (ok.all _ (List.getElem_mem ha)) h
 have h2 := this.2 hp
 have := this.1
 exact ⟨o.toNat, by omega, by omega⟩
theorem OkS.rt1 (a : Nat) (ha : a < L.length) (kind : Int) : Ev (fun k => impl_route_1.f k a kind (-1) L (-1) (-1)) ((hasO L[a].f2 kind).getD 0, (hasO L[a].f2 kind).isSome) := by
 refine Ev.congr (fun k => ?_) (Ev.bind (im_has L[a].f2 (ok.feats _ (List.getElem_mem ha)) kind L[a].f0 L[a].f1) (Ev.now _))
 unfold impl_route_1.f
 rw [if_neg (show ¬ (a : Int) = -1 by omega), if_pos (by omega), if_pos (by omega), rd43 L a ha]
def loopTest (fr a : Int) (hops : List Int) : Bool := decide (a = fr) || (hops.any (· == a) || decide ((hops.length : Int) > 5))
theorem sp_loop (fr : Nat) (hfr : fr < L.length) (d : Nat) : ∀ (a : Nat) (hops : List Int), a < L.length → hops.length + d = 7 →
  Ev (fun k => spec_Route7.l0 k L fr hops a) (rt L fr (hasO L[fr].f2 7).isSome d hops a) := by
 induction d with
 | zero =>
  intro a hops ha hd
  have h5 : decide ((hops.length : Int) > 5) = true := by simp; omega
  have h1 : (-1 : Int) < 0 := by decide
  have hj : Ev (fun k => spec_Route7.j2 k L fr hops a (-1) 1 true L[a].f0 L[a].f1 L[a].f2) (rt L fr (hasO L[fr].f2 7).isSome 0 hops a) :=
   Ev.step (f := fun _ => some (7, (a : Int), hops)) (fun k => by simp only [spec_Route7.j2]; rw [if_pos trivial, if_pos h1]) (Ev.now _)
  by_cases h0 : (a : Int) = fr
  ·refine Ev.step (fun k => ?_) hj
   simp only [spec_Route7.l0]
   rw [if_pos (by omega), if_pos (by omega), if_pos h0, rd43 L a ha]
  ·refine Ev.step (fun k => ?_) (Ev.bind (sp_within hops (by omega) a) (f := fun k t => if t = true then spec_Route7.j2 k L fr hops a (-1) 1 true L[a].f0 L[a].f1 L[a].f2 else spec_Route7.j2 k L fr hops a (-1) 1 (decide ((hops.length : Int) > 5)) L[a].f0 L[a].f1 L[a].f2) ?_)
   ·simp only [spec_Route7.l0]
    rw [if_pos (by omega), if_pos (by omega), if_neg h0, rd43 L a ha]
   ·rw [h5]
    simpa using hj
 | succ d ih =>
  intro a hops ha hd
  have hl := ok.len
  have hgo : ∀ (kind o : Int), pts kind = true → hasO L[a].f2 kind = some o → Ev (fun k => if hops.length < 17592186044416 then spec_Route7.l0 k L fr (hops ++ [(a : Int)]) o else none) (rt L fr (hasO L[fr].f2 7).isSome d (hops ++ [(a : Int)]) o) := by
   intro kind o hp ho
   obtain ⟨b, hb, rfl⟩ := ok.to a ha ho hp
   have := ih b (hops ++ [(a : Int)]) hb (by simp; omega)
   exact Ev.congr (fun k => by rw [if_pos (by omega)]) this
  have hneg : ∀ o : Int, 0 ≤ o → ¬ o < 0 := fun o h => by omega
  have h1 : (-1 : Int) < 0 := by decide
  have hl0 : ∀ R, Ev (fun k => spec_Route7.j2 k L fr hops a (-1) 1 (loopTest fr a hops) L[a].f0 L[a].f1 L[a].f2) R → Ev (fun k => spec_Route7.l0 k L fr hops a) R := by
   intro R hR
   unfold loopTest at hR
   by_cases h0 : (a : Int) = fr
   ·rw [decide_eq_true h0, Bool.true_or] at hR
    refine Ev.step (fun k => ?_) hR
    simp only [spec_Route7.l0]
    rw [if_pos (by omega), if_pos (by omega), if_pos h0, rd43 L a ha]
   ·rw [decide_eq_false h0, Bool.false_or] at hR
    refine Ev.step (fun k => ?_) (Ev.bind (sp_within hops (by omega) a) (r := R) (f := fun k t => if t = true then spec_Route7.j2 k L fr hops a (-1) 1 true L[a].f0 L[a].f1 L[a].f2 else spec_Route7.j2 k L fr hops a (-1) 1 (decide ((hops.length : Int) > 5)) L[a].f0 L[a].f1 L[a].f2) ?_)
    ·simp only [spec_Route7.l0]
     rw [if_pos (by omega), if_pos (by omega), if_neg h0, rd43 L a ha]
    ·cases hc : hops.any (· == (a : Int))
     ·rw [hc, Bool.false_or] at hR
      simpa using hR
     ·rw [hc, Bool.true_or] at hR
      simpa using hR
  refine hl0 _ ?_
  unfold rt
  change Ev _ (if loopTest fr a hops = true then _ else _)
  cases hc : loopTest fr a hops
  rotate_left
  ·exact Ev.step (f := fun _ => some (7, (a : Int), hops)) (fun k => by simp only [spec_Route7.j2]; rw [if_pos trivial, if_pos h1]) (Ev.now _)
  rw [if_neg (by decide), rd43 L a ha]
  have hS : Ev (fun k => spec_l7Screened.f k L fr a) (scr L[a].f2 fr (hasO L[fr].f2 7).isSome) := by
   refine Ev.congr (fun k => ?_) (Ev.bind (ok.has_at fr hfr 7) (f := fun k t => spec_l7Screened.l0 k L fr a (decide (t ≥ 0)) 0) (r := scr L[a].f2 fr (hasO L[fr].f2 7).isSome) ?_)
   ·unfold spec_l7Screened.f
    rw [if_pos (by omega), if_pos (by omega), rd43 L fr hfr]
   ·rw [ok.dec fr hfr 7]
    exact sp_scr L fr a ha _ (ok.feats _ (List.getElem_mem ha))
  refine Ev.step (fun k => by simp only [spec_Route7.j2]; rw [if_neg (by decide)]) (Ev.bind hS ?_)
  cases hs : scr L[a].f2 fr (hasO L[fr].f2 7).isSome
  rotate_left
  ·simp only [if_true, if_pos h1]
   exact Ev.now _
  simp only [Bool.false_eq_true, if_false]
  refine Ev.bind (ok.has_at a ha 1) ?_
  cases hf : hasO L[a].f2 1 with
  | some o =>
   have hp := ok.pos a ha hf
   simp only [Option.getD_some, if_pos (show o ≥ 0 from hp)]
   refine Ev.bind (ok.has_at a ha 1) ?_
   rw [hf]
   simp only [Option.getD_some, if_neg (hneg o hp)]
   exact hgo 1 o rfl hf
  | none =>
   simp only [Option.getD_none, if_neg (show ¬ ((-1 : Int) ≥ 0) by decide)]
   have hj5 : L[a].f0 = false → Ev (fun k => spec_Route7.j5 k L fr hops a (-1) 1 (L[a].f1 && (hasO L[a].f2 3).isSome) L[a].f0 L[a].f1 L[a].f2) (if L[a].f1 = true then (match hasO L[a].f2 3 with | some o => rt L fr (hasO L[fr].f2 7).isSome d (hops ++ [(a : Int)]) o | none => (4, (a : Int), hops)) else (1, (a : Int), hops)) := by
    intro _
    cases hla : L[a].f1
    ·refine Ev.step (f := fun _ => some (1, (a : Int), hops)) (fun k => ?_) (Ev.now _)
     simp [spec_Route7.j5]
    ·cases h3 : hasO L[a].f2 3 with
     | none =>
      refine Ev.step (f := fun _ => some (4, (a : Int), hops)) (fun k => ?_) (Ev.now _)
      simp [spec_Route7.j5]
     | some o =>
      have hp := ok.pos a ha h3
      have hh := ok.has_at a ha 3
      rw [h3, hla] at hh
      refine Ev.step (fun k => ?_) (Ev.bind hh (f := fun k t => if t < 0 then some (1, (a : Int), hops) else if hops.length < 17592186044416 then spec_Route7.l0 k L fr (hops ++ [(a : Int)]) t else none) ?_)
      ·simp only [spec_Route7.j5, Bool.true_and, Option.isSome_some, if_true]
      ·simp only [Option.getD_some, if_neg (hneg o hp), if_true]
       exact hgo 3 o rfl h3
   cases hba : L[a].f0
   ·simp only [Bool.false_eq_true, if_false]
    have hq := hj5 hba
    rw [hba] at hq
    have hh := ok.has_at a ha 3
    rw [hba] at hh
    refine Ev.step (f := fun k => spec_Route7.j4 k L fr hops a (-1) 1 false false L[a].f1 L[a].f2) (fun k => by simp only [spec_Route7.j3, Bool.false_eq_true, if_false]) ?_
    cases hla : L[a].f1
    ·rw [hla] at hq
     refine Ev.step (fun k => ?_) hq
     simp only [spec_Route7.j4, Bool.false_eq_true, if_false, Bool.false_and]
    ·rw [hla] at hq hh
     refine Ev.step (fun k => ?_) (Ev.bind hh (f := fun k t => spec_Route7.j5 k L fr hops a (-1) 1 (decide (t ≥ 0)) false true L[a].f2) ?_)
     ·simp only [spec_Route7.j4, Bool.false_eq_true, if_false, if_true]
     ·rw [ok.dec a ha 3]
      simpa using hq
   ·have hh6 := ok.has_at a ha 6
    have hh2 := ok.has_at a ha 2
    rw [hba] at hh6 hh2
    simp only [if_true]
    refine Ev.bind hh6 ?_
    rw [ok.dec a ha 6]
    cases h6 : (hasO L[a].f2 6).isSome
    rotate_left
    ·refine Ev.step (f := fun _ => some (2, (a : Int), hops)) (fun k => ?_) (Ev.now _)
     simp [spec_Route7.j3]
    simp only [Bool.false_eq_true, if_false]
    refine Ev.step (fun k => ?_) (Ev.bind hh2 (f := fun k t => spec_Route7.j4 k L fr hops a (-1) 1 (decide (t ≥ 0)) true L[a].f1 L[a].f2) ?_)
    ·simp only [spec_Route7.j3, Bool.false_eq_true, if_false, if_true]
    rw [ok.dec a ha 2]
    cases h2 : hasO L[a].f2 2 with
    | none =>
     refine Ev.step (f := fun _ => some (3, (a : Int), hops)) (fun k => ?_) (Ev.now _)
     simp [spec_Route7.j4]
    | some o =>
     have hp := ok.pos a ha h2
     rw [h2] at hh2
     refine Ev.step (fun k => ?_) (Ev.bind hh2 (f := fun k t => if t < 0 then some (1, (a : Int), hops) else if hops.length < 17592186044416 then spec_Route7.l0 k L fr (hops ++ [(a : Int)]) t else none) ?_)
     ·simp only [spec_Route7.j4, Option.isSome_some, if_true]
     ·simp only [Option.getD_some, if_neg (hneg o hp)]
      exact hgo 2 o rfl h2
theorem im_loop (fr : Nat) (hfr : fr < L.length) (pv : Bool) (d : Nat) : ∀ (a : Nat) (hops : List Int), a < L.length → hops.length + d = 7 →
  Ev (fun k => impl_route.l0 k fr pv L (-1) (-1) (-1) hops a) (rt L fr pv d hops a) := by
 induction d with
 | zero =>
  intro a hops ha hd
  have h5 : decide ((hops.length : Int) > 5) = true := by simp; omega
  have hj : Ev (fun k => impl_route.j1 k fr pv true L (-1) (-1) (-1) hops a) (rt L fr pv 0 hops a) :=
   Ev.step (f := fun _ => some (7, (a : Int), hops)) (fun k => by simp only [impl_route.j1]; rw [if_pos trivial]) (Ev.now _)
  by_cases h0 : (a : Int) = fr
  ·refine Ev.step (fun k => ?_) hj
   simp only [impl_route.l0]
   rw [if_pos h0]
  ·refine Ev.step (fun k => ?_) (Ev.bind (im_contains hops (by omega) a) (f := fun k t => if t = true then impl_route.j1 k fr pv true L (-1) (-1) (-1) hops a else impl_route.j1 k fr pv (decide ((hops.length : Int) > 5)) L (-1) (-1) (-1) hops a) ?_)
   ·simp only [impl_route.l0]
    rw [if_neg h0]
   ·rw [h5]
    simpa using hj
 | succ d ih =>
  intro a hops ha hd
  have hl := ok.len
  have hgo : ∀ (kind o : Int), pts kind = true → hasO L[a].f2 kind = some o → Ev (fun k => if hops.length < 17592186044416 then impl_route.l0 k fr pv L (-1) (-1) (-1) (hops ++ [(a : Int)]) o else none) (rt L fr pv d (hops ++ [(a : Int)]) o) := by
   intro kind o hp ho
   obtain ⟨b, hb, rfl⟩ := ok.to a ha ho hp
   have := ih b (hops ++ [(a : Int)]) hb (by simp; omega)
   exact Ev.congr (fun k => by rw [if_pos (by omega)]) this
  have hl0 : ∀ R, Ev (fun k => impl_route.j1 k fr pv (loopTest fr a hops) L (-1) (-1) (-1) hops a) R → Ev (fun k => impl_route.l0 k fr pv L (-1) (-1) (-1) hops a) R := by
   intro R hR
   unfold loopTest at hR
   by_cases h0 : (a : Int) = fr
   ·rw [decide_eq_true h0, Bool.true_or] at hR
    refine Ev.step (fun k => ?_) hR
    simp only [impl_route.l0]
    rw [if_pos h0]
   ·rw [decide_eq_false h0, Bool.false_or] at hR
    refine Ev.step (fun k => ?_) (Ev.bind (im_contains hops (by omega) a) (r := R) (f := fun k t => if t = true then impl_route.j1 k fr pv true L (-1) (-1) (-1) hops a else impl_route.j1 k fr pv (decide ((hops.length : Int) > 5)) L (-1) (-1) (-1) hops a) ?_)
    ·simp only [impl_route.l0]
     rw [if_neg h0]
    ·cases hc : hops.any (· == (a : Int))
     ·rw [hc, Bool.false_or] at hR
      simpa using hR
     ·rw [hc, Bool.true_or] at hR
      simpa using hR
  refine hl0 _ ?_
  unfold rt
  change Ev _ (if loopTest fr a hops = true then _ else _)
  cases hc : loopTest fr a hops
  rotate_left
  ·exact Ev.step (f := fun _ => some (7, (a : Int), hops)) (fun k => by simp only [impl_route.j1]; rw [if_pos trivial]) (Ev.now _)
  rw [if_neg (by decide), rd43 L a ha]
  refine Ev.step (fun k => ?_) (im_scr L fr L[a].f2 a pv hops (ok.feats _ (List.getElem_mem ha)) _ ?_)
  ·simp only [impl_route.j1]
   rw [if_neg (by decide), if_pos (by omega), if_pos (by omega), rd43 L a ha]
  intro _
  refine Ev.bind (ok.rt1 a ha 1) ?_
  cases hf : hasO L[a].f2 1 with
  | some o =>
   simp only [Option.getD_some, Option.isSome_some, if_true]
   refine Ev.step (f := fun k => impl_route.j4 k fr pv o true L (-1) (-1) (-1) hops a) (fun k => by simp only [impl_route.j3, Bool.false_eq_true, if_false]) ?_
   refine Ev.step (f := fun k => impl_route.j5 k fr pv o true false L (-1) (-1) (-1) hops a) (fun k => by simp only [impl_route.j4, if_true]) ?_
   refine Ev.step (fun k => ?_) (hgo 1 o rfl hf)
   simp only [impl_route.j5, Bool.false_eq_true, if_false, if_true]
  | none =>
   simp only [Option.getD_none, Option.isSome_none, Bool.false_eq_true, if_false, if_pos (show (0 : Int) ≤ (a : Int) by omega), if_pos (show (a : Int) < (L.length : Int) by omega), rd43 L a ha]
   cases hba : L[a].f0
   ·simp only [Bool.false_eq_true, if_false]
    refine Ev.step (f := fun k => impl_route.j4 k fr pv 0 false L (-1) (-1) (-1) hops a) (fun k => by simp only [impl_route.j3, Bool.false_eq_true, if_false]) ?_
    refine Ev.step (f := fun k => impl_route.j5 k fr pv 0 false L[a].f1 L (-1) (-1) (-1) hops a) (fun k => by simp only [impl_route.j4, Bool.false_eq_true, if_false, if_pos (show (0 : Int) ≤ (a : Int) by omega), if_pos (show (a : Int) < (L.length : Int) by omega), rd43 L a ha]) ?_
    cases hla : L[a].f1
    ·refine Ev.step (f := fun _ => some (1, (a : Int), hops)) (fun k => ?_) (Ev.now _)
     simp [impl_route.j5]
    ·refine Ev.step (fun k => ?_) (Ev.bind (ok.rt1 a ha 3) (f := fun k q => if q.2 = true then (if hops.length < 17592186044416 then impl_route.l0 k fr pv L (-1) (-1) (-1) (hops ++ [(a : Int)]) q.1 else none) else some (4, (a : Int), hops)) ?_)
     ·simp only [impl_route.j5, if_true]
     ·cases h3 : hasO L[a].f2 3 with
      | none =>
       simp only [Option.isSome_none, Bool.false_eq_true, if_false, if_true]
       exact Ev.now _
      | some o =>
       simp only [Option.isSome_some, Option.getD_some, if_true]
       exact hgo 3 o rfl h3
   ·simp only [if_true]
    refine Ev.step (fun k => ?_) (Ev.bind (ok.rt1 a ha 6) (f := fun k q => if q.2 = true then some (2, (a : Int), hops) else (impl_route_1.f k a 2 (-1) L (-1) (-1)).bind fun q' => if q'.2 = true then impl_route.j4 k fr pv q'.1 q'.2 L (-1) (-1) (-1) hops a else some (3, (a : Int), hops)) ?_)
    ·simp only [impl_route.j3, if_true]
    cases h6 : (hasO L[a].f2 6).isSome
    rotate_left
    ·simp only [if_true]
     exact Ev.now _
    simp only [Bool.false_eq_true, if_false]
    refine Ev.bind (ok.rt1 a ha 2) ?_
    cases h2 : hasO L[a].f2 2 with
    | none =>
     simp only [Option.isSome_none, Bool.false_eq_true, if_false]
     exact Ev.now _
    | some o =>
     simp only [Option.isSome_some, Option.getD_some, if_true]
     refine Ev.step (f := fun k => impl_route.j5 k fr pv o true false L (-1) (-1) (-1) hops a) (fun k => by simp only [impl_route.j4, if_true]) ?_
     refine Ev.step (fun k => ?_) (hgo 2 o rfl h2)
     simp only [impl_route.j5, Bool.false_eq_true, if_false, if_true]
end
def route (L : List S43) (fr to_ : Int) : Int × Int × List Int :=
 if (subsOk L && ((decide (0 ≤ fr) && decide (fr ≤ (L.length : Int) - 1)) && (decide (0 ≤ to_) && decide (to_ ≤ (L.length : Int) - 1)))) = true then
  (if fr = to_ then (8, -1, []) else if (hasO (rd_T43 L fr).f2 4).isSome = true then (5, fr, []) else rt L fr (hasO (rd_T43 L fr).f2 7).isSome 7 [] to_)
 else (8, -1, [])
theorem sp_route (L : List S43) (hL : (L.length : Int) ≤ 1048576) (hf : ∀ s ∈ L, (s.f2.length : Int) ≤ 1048576) (fr to_ : Int) : Ev (fun k => spec_Route7.f k L fr to_) (route L fr to_) := by
 have ew : wrap64 ((L.length : Int) - 1) = (L.length : Int) - 1 := w64 (by omega)
 have hbad : Ev (fun k => spec_Route7.j0 k L fr to_ true) (8, -1, []) := Ev.step (f := fun _ => some (8, -1, [])) (fun k => by simp only [spec_Route7.j0, if_true]) (Ev.now _)
 unfold route
 refine Ev.congr (fun k => rfl) (Ev.bind (sp_ok L hL hf) ?_)
 cases hs : subsOk L
 ·simp only [Bool.false_eq_true, if_false, Bool.false_and]
  exact hbad
 have ok := OkS.of L hL hf hs
 simp only [if_true, Bool.true_and, lin, ew, Option.bind_some]
 cases h1 : decide (0 ≤ fr) && decide (fr ≤ (L.length : Int) - 1)
 ·simp only [Bool.false_eq_true, if_false, Bool.false_and]
  exact hbad
 cases h2 : decide (0 ≤ to_) && decide (to_ ≤ (L.length : Int) - 1)
 ·simp only [Bool.false_eq_true, if_false, Bool.and_false, if_true]
  exact hbad
 simp only [Bool.and_eq_true, decide_eq_true_eq] at h1 h2
 obtain ⟨a, ha, rfl⟩ : ∃ a : Nat, a < L.length ∧ fr = (a : Int) := ⟨fr.toNat, by omega, by omega⟩
 obtain ⟨b, hb, rfl⟩ : ∃ b : Nat, b < L.length ∧ to_ = (b : Int) := ⟨to_.toNat, by omega, by omega⟩
 simp only [if_true, Bool.and_true]
 by_cases he : (a : Int) = b
 ·rw [if_pos he, show ((a : Int) == (b : Int)) = true from by simpa using he]
  exact hbad
 ·rw [if_neg he, show ((a : Int) == (b : Int)) = false from by simpa using he, rd43 L a ha]
  refine Ev.step (fun k => ?_) (Ev.bind (ok.has_at a ha 4) (f := fun k t => if t ≥ 0 then some (5, (a : Int), []) else spec_Route7.l0 k L a [] b) ?_)
  ·simp only [spec_Route7.j0, Bool.false_eq_true, if_false]
   rw [if_pos (by omega), if_pos (by omega), rd43 L a ha]
  ·cases h4 : hasO L[a].f2 4 with
   | none =>
    simp only [Option.getD_none, if_neg (show ¬ ((-1 : Int) ≥ 0) by decide), Option.isSome_none, Bool.false_eq_true, if_false]
    exact sp_loop ok a ha 7 b [] hb rfl
   | some o =>
    simp only [Option.getD_some, if_pos (show o ≥ 0 from ok.pos a ha h4), Option.isSome_some, if_true]
    exact Ev.now _
theorem im_route (L : List S43) (hL : (L.length : Int) ≤ 1048576) (hf : ∀ s ∈ L, (s.f2.length : Int) ≤ 1048576) (fr to_ : Int) : Ev (fun k => impl_Route7.f k L fr to_) (route L fr to_) := by
 have ew : wrap64 ((L.length : Int) - 1) = (L.length : Int) - 1 := w64 (by omega)
 unfold route
 refine Ev.congr (fun k => rfl) (Ev.bind (im_ok L hL hf) ?_)
 cases hs : subsOk L
 ·simp only [Bool.false_eq_true, if_false, Bool.false_and]
  exact Ev.now _
 have ok := OkS.of L hL hf hs
 simp only [if_true, Bool.true_and, iin, ew, Option.bind_some]
 cases h1 : decide (0 ≤ fr) && decide (fr ≤ (L.length : Int) - 1)
 ·simp only [Bool.false_eq_true, if_false, Bool.false_and]
  exact Ev.now _
 cases h2 : decide (0 ≤ to_) && decide (to_ ≤ (L.length : Int) - 1)
 ·simp only [Bool.false_eq_true, if_false, Bool.and_false, if_true]
  exact Ev.now _
 simp only [Bool.and_eq_true, decide_eq_true_eq] at h1 h2
 obtain ⟨a, ha, rfl⟩ : ∃ a : Nat, a < L.length ∧ fr = (a : Int) := ⟨fr.toNat, by omega, by omega⟩
 obtain ⟨b, hb, rfl⟩ : ∃ b : Nat, b < L.length ∧ to_ = (b : Int) := ⟨to_.toNat, by omega, by omega⟩
 simp only [if_true, Bool.and_true]
 by_cases he : (a : Int) = b
 ·simp only [if_pos he]
  exact Ev.now _
 ·simp only [if_neg he, rd43 L a ha]
  refine Ev.bind (g := fun k => impl_route.f k L a b (-1) (-1) (-1)) (a := if (hasO L[a].f2 4).isSome = true then (5, (a : Int), []) else rt L a (hasO L[a].f2 7).isSome 7 [] b) ?_ (Ev.now _)
  refine Ev.congr (fun k => rfl) (Ev.bind (ok.rt1 a ha 4) ?_)
  cases h4 : (hasO L[a].f2 4).isSome
  ·simp only [Bool.false_eq_true, if_false]
   exact Ev.bind (ok.rt1 a ha 7) (im_loop ok a ha _ 7 b [] hb rfl)
  ·simp only [if_true]
   exact Ev.now _

theorem rt_len (L : List S43) (fr : Int) (pv : Bool) : ∀ (d : Nat) (hops : List Int) (a : Int), (rt L fr pv d hops a).2.2.length ≤ hops.length + d
 | 0, hops, a => by simp [rt]
 | d + 1, hops, a => by
  have h : ∀ o, (rt L fr pv d (hops ++ [a]) o).2.2.length ≤ hops.length + (d + 1) := fun o => by
   have := rt_len L fr pv d (hops ++ [a]) o
   simp at this
   omega
  unfold rt
  split
  ·exact Nat.le_add_right _ _
  split
  ·exact Nat.le_add_right _ _
  split
  ·exact h _
  split
  ·split
   ·exact Nat.le_add_right _ _
   ·split
    ·exact h _
    ·exact Nat.le_add_right _ _
  split
  ·split
   ·exact h _
   ·exact Nat.le_add_right _ _
  ·exact Nat.le_add_right _ _
theorem route_len (L : List S43) (fr to_ : Int) : ((route L fr to_).2.2.length : Int) ≤ 7 := by
 unfold route
 split
 ·split
  ·decide
  ·split
   ·simp
   ·have := rt_len L fr (hasO (rd_T43 L fr).f2 7).isSome 7 [] to_
    simp at this
    omega
 ·decide


/-! The cursor over what is drawn: it never falls, whatever its numbers -/
theorem and_bound (x m : Int) (h0 : 0 ≤ m) (h1 : m ≤ 2000000000) : 0 ≤ Go.bits .and .i64 x m ∧ Go.bits .and .i64 x m ≤ m := by
 have e : (BitVec.ofInt 64 m).toNat = m.toNat := by
  rw [BitVec.toNat_ofInt]
  have : m % ((2 ^ 64 : Nat) : Int) = m := Int.emod_eq_of_lt h0 (by omega)
  rw [this]
 have hle : (BitVec.ofInt 64 x &&& BitVec.ofInt 64 m).toNat ≤ m.toNat := by
  rw [BitVec.toNat_and, e]
  exact Nat.and_le_right
 have hw : Go.bits .and .i64 x m = ((BitVec.ofInt 64 x &&& BitVec.ofInt 64 m).toNat : Int) := by
  show IntKind.i64.wrap (((BitVec.ofInt 64 x &&& BitVec.ofInt 64 m).toNat : Nat) : Int) = _
  rw [IntKind.wrap_i64]
  omega
 omega
theorem byte_ok (l : List Int) (s1 s2 : Int) (hl : (l.length : Int) ≤ 1048576) (h0 : 0 ≤ s1) : ∃ b t1 t2, spec_l1Byte.f l s1 s2 = some (b, t1, t2) ∧ 0 ≤ b ∧ b ≤ 255 ∧ 0 ≤ t1 := by
 unfold spec_l1Byte.f
 by_cases c : s1 < (l.length : Int)
 ·rw [if_pos c, if_pos h0]
  refine ⟨_, _, _, rfl, (and_bound _ 255 (by omega) (by omega)).1, (and_bound _ 255 (by omega) (by omega)).2, ?_⟩
  rw [w64 (by omega)]
  omega
 ·rw [if_neg c]
  exact ⟨_, _, _, rfl, (and_bound _ 255 (by omega) (by omega)).1, (and_bound _ 255 (by omega) (by omega)).2, h0⟩
theorem below_ok (l : List Int) (s1 s2 n : Int) (hl : (l.length : Int) ≤ 1048576) (h0 : 0 ≤ s1) : ∃ r t1 t2, spec_l1Below.f l s1 s2 n = some (r, t1, t2) ∧ 0 ≤ t1 ∧ (0 < n → 0 ≤ r ∧ r < n) ∧ (n ≤ 0 → r = 0) := by
 unfold spec_l1Below.f
 by_cases c : n ≤ 0
 ·rw [if_pos c]
  exact ⟨_, _, _, rfl, h0, fun h => absurd h (by omega), fun _ => rfl⟩
 ·rw [if_neg c]
  by_cases c2 : n ≤ 256
  ·rw [if_pos c2]
   obtain ⟨b, t1, t2, e, b0, b1, b2⟩ := byte_ok l s1 s2 hl h0
   rw [e]
   simp only [Option.bind_some]
   rw [if_neg (by omega)]
   refine ⟨_, _, _, rfl, b2, fun _ => ?_, fun h => absurd h (by omega)⟩
   rw [Int.tmod_eq_emod_of_nonneg b0]
   exact ⟨Int.emod_nonneg _ (by omega), Int.emod_lt_of_pos _ (by omega)⟩
  ·rw [if_neg c2]
   obtain ⟨b, t1, t2, e, b0, b1, b2⟩ := byte_ok l s1 s2 hl h0
   rw [e]
   simp only [Option.bind_some]
   obtain ⟨b', t1', t2', e', b0', b1', b2'⟩ := byte_ok l t1 t2 hl b2
   rw [e']
   simp only [Option.bind_some]
   obtain ⟨b'', t1'', t2'', e'', b0'', b1'', b2''⟩ := byte_ok l t1' t2' hl b2'
   rw [e'']
   simp only [Option.bind_some]
   obtain ⟨c', u1, u2, f, g0, g1, g2⟩ := byte_ok l t1'' t2'' hl b2''
   rw [f]
   simp only [Option.bind_some]
   rw [if_neg (by omega)]
   refine ⟨_, _, _, rfl, g2, fun _ => ?_, fun h => absurd h (by omega)⟩
   rw [Int.tmod_eq_emod_of_nonneg (by unfold wrap64; omega)]
   exact ⟨Int.emod_nonneg _ (by omega), Int.emod_lt_of_pos _ (by omega)⟩
theorem once_ok (l : List Int) (s1 s2 n : Int) (hl : (l.length : Int) ≤ 1048576) (h0 : 0 ≤ s1) : ∃ r t1 t2, spec_l1Once.f l s1 s2 n = some (r, t1, t2) ∧ 0 ≤ t1 := by
 unfold spec_l1Once.f
 obtain ⟨r, t1, t2, e, h, _⟩ := below_ok l s1 s2 n hl h0
 rw [e]
 exact ⟨_, _, _, rfl, h⟩
theorem new_ok (l : List Int) (hl : (l.length : Int) ≤ 1048576) : ∃ h, Ev (fun k => spec_l1New.f k l) (l, 0, h) := by
 have key : ∀ (d : Nat) (i h : Int), 0 ≤ i → i ≤ l.length → (l.length : Int) - i = d → ∃ h', Ev (fun k => spec_l1New.l0 k l h i) (l, 0, h') := by
  intro d
  induction d with
  | zero =>
   intro i h h0 h1 hd
   refine ⟨h, Ev.step (f := fun _ => some (l, 0, h)) (fun k => ?_) (Ev.now _)⟩
   simp only [spec_l1New.l0]
   rw [if_neg (by omega)]
  | succ d ih =>
   intro i h h0 h1 hd
   have ei : wrap64 (i + 1) = i + 1 := w64 (by omega)
   by_cases c : i < 4000
   ·obtain ⟨h', hh⟩ := ih (i + 1) (Go.bits .and .i64 (wrap64 ((wrap64 ((wrap64 (h * 131)) + (wrap64 (rd l i)))) + 7)) 1073741823) (by omega) (by omega) (by omega)
    refine ⟨h', Ev.step (fun k => ?_) hh⟩
    simp only [spec_l1New.l0]
    rw [if_pos (by omega), if_pos c, if_pos h0, ei]
   ·refine ⟨h, Ev.step (f := fun _ => some (l, 0, h)) (fun k => ?_) (Ev.now _)⟩
    simp only [spec_l1New.l0]
    rw [if_pos (by omega), if_neg c]
 exact key l.length 0 _ (by omega) (by omega) (by omega)


theorem pick_ok (l : List Int) (s1 s2 : Int) (p : List Int) (hl : (l.length : Int) ≤ 1048576) (h0 : 0 ≤ s1) (hp : 0 < p.length) : ∃ r t1 t2, spec_l1PickInt.f l s1 s2 p = some (r, t1, t2) ∧ 0 ≤ t1 ∧ r ∈ p := by
 unfold spec_l1PickInt.f
 obtain ⟨r, t1, t2, e, h, hr, _⟩ := below_ok l s1 s2 (p.length : Int) hl h0
 obtain ⟨r0, r1⟩ := hr (by omega)
 rw [e]
 simp only [Option.bind_some]
 rw [if_pos r0, if_pos r1]
 exact ⟨_, _, _, rfl, h, List.mem_of_getElem? (rd_at p r r0 r1)⟩

/-! subs that are drawn -/
structure Dr (l : List Int) (n : Int) (R : List S43 × Int × Int) : Prop where
 len : (R.1.length : Int) = n
 few : ∀ s ∈ R.1, s.f2.length ≤ 3
 at_ : 0 ≤ R.2.1
theorem draw_in (l : List Int) (hl : (l.length : Int) ≤ 1048576) (n : Int) (hn : 0 ≤ n ∧ n ≤ 100) (X : List S43) (hX : (X.length : Int) ≤ 100) (i : Int) (P : List S43 × Int × Int → Prop)
  (hR : ∀ b b' (f : List S45) s1 s2, f.length ≤ 3 → 0 ≤ s1 → ∃ R, Ev (fun k => spec_l7Draw.l0 k n (X ++ [⟨b, b', f⟩]) (wrap64 (i + 1)) l s1 s2) R ∧ P R) (d : Nat) :
  ∀ (b b' : Bool) (f : List S45) (s1 s2 : Int), f.length + d ≤ 3 → 0 ≤ s1 → ∃ R, Ev (fun k => spec_l7Draw.l1 k n X i d l s1 s2 b b' f) R ∧ P R := by
 induction d with
 | zero =>
  intro b b' f s1 s2 hf h0
  obtain ⟨R, h, hp⟩ := hR b b' f s1 s2 (by omega) h0
  refine ⟨R, Ev.step (fun k => ?_) h, hp⟩
  simp only [spec_l7Draw.l1]
  rw [if_neg (by decide), if_pos (by omega)]
 | succ d ih =>
  intro b b' f s1 s2 hf h0
  have ed : wrap64 (((d + 1 : Nat) : Int) - 1) = (d : Int) := by rw [w64 (by omega)]; omega
  have hj3 : ∀ (s1 s2 x y : Int), 0 ≤ s1 → ∃ R, Ev (fun k => spec_l7Draw.j3 k n X i ((d + 1 : Nat) : Int) l s1 s2 b b' f x y) R ∧ P R := by
   intro s1 s2 x y h0
   have hgo : ∀ (s1 s2 z : Int), 0 ≤ s1 → ∃ R, Ev (fun k => (spec_l7Sub.f k b b' (([] : List S45) ++ f ++ [⟨x, z⟩]) n).bind fun t => if t = true then spec_l7Draw.l1 k n X i (wrap64 (((d + 1 : Nat) : Int) - 1)) l s1 s2 b b' (([] : List S45) ++ f ++ [⟨x, z⟩]) else spec_l7Draw.l1 k n X i (wrap64 (((d + 1 : Nat) : Int) - 1)) l s1 s2 b b' f) R ∧ P R := by
    intro s1 s2 z h0
    rw [ed, List.nil_append]
    have hs0 : Ev (fun k => spec_l7Sub.l0 k n ((0 : Nat) : Int) b b' (f ++ [⟨x, z⟩])) (chk n ((f ++ [⟨x, z⟩] : List S45).take 0) ((f ++ [⟨x, z⟩] : List S45).drop 0)) := sp_sub n (by omega) b b' (f ++ [⟨x, z⟩]) (by simp; omega) _ 0 (by omega) rfl
    have hs : Ev (fun k => spec_l7Sub.f k b b' (f ++ [⟨x, z⟩]) n) (chk n ((f ++ [⟨x, z⟩] : List S45).take 0) ((f ++ [⟨x, z⟩] : List S45).drop 0)) := Ev.congr (fun k => rfl) hs0
    cases hc : chk n ((f ++ [⟨x, z⟩] : List S45).take 0) ((f ++ [⟨x, z⟩] : List S45).drop 0)
    ·rw [hc] at hs
     obtain ⟨R, h, hp⟩ := ih b b' f s1 s2 (by omega) h0
     exact ⟨R, Ev.bind hs (by simpa using h), hp⟩
    ·rw [hc] at hs
     obtain ⟨R, h, hp⟩ := ih b b' (f ++ [⟨x, z⟩]) s1 s2 (by simp; omega) h0
     exact ⟨R, Ev.bind hs (by simpa using h), hp⟩
   have hl1 : ([] : List S45).length + f.length < 8796093022208 := by simp; omega
   have hl2 : ∀ z : Int, (([] : List S45) ++ f).length + ([⟨x, z⟩] : List S45).length < 8796093022208 := by intro z; simp; omega
   have hj4 : ∀ (s1 s2 z : Int), 0 ≤ s1 → ∃ R, Ev (fun k => spec_l7Draw.j4 k n X i ((d + 1 : Nat) : Int) l s1 s2 b b' f x z) R ∧ P R := by
    intro s1 s2 z h0
    obtain ⟨R, h, hP⟩ := hgo s1 s2 z h0
    refine ⟨R, Ev.step (fun k => ?_) h, hP⟩
    simp only [spec_l7Draw.j4, Option.bind_some, if_pos hl1, if_pos (hl2 z)]
   cases hp : pts x
   ·obtain ⟨R, h, hP⟩ := hj4 s1 s2 y h0
    refine ⟨R, Ev.step (fun k => ?_) h, hP⟩
    simp only [spec_l7Draw.j3, pts_ev, hp, Option.bind_some, Bool.false_eq_true, if_false]
   ·obtain ⟨r, t1, t2, e, ht, _⟩ := below_ok l s1 s2 n hl h0
    obtain ⟨R, h, hP⟩ := hj4 t1 t2 r ht
    refine ⟨R, Ev.step (fun k => ?_) h, hP⟩
    simp only [spec_l7Draw.j3, pts_ev, hp, Option.bind_some, if_true, e]
  have hj2 : ∀ (q : Bool) (s1 s2 x y : Int), 0 ≤ s1 → ∃ R, Ev (fun k => spec_l7Draw.j2 k n X i ((d + 1 : Nat) : Int) q l s1 s2 b b' f x y) R ∧ P R := by
   intro q s1 s2 x y h0
   cases q
   ·obtain ⟨R, h, hP⟩ := hj3 s1 s2 x y h0
    exact ⟨R, Ev.step (fun k => by simp only [spec_l7Draw.j2, Bool.false_eq_true, if_false]) h, hP⟩
   ·obtain ⟨R, h, hP⟩ := hj3 s1 s2 6 y h0
    exact ⟨R, Ev.step (fun k => by simp only [spec_l7Draw.j2, if_true]) h, hP⟩
  obtain ⟨r, t1, t2, e, ht, _⟩ := pick_ok l s1 s2 [1, 1, 2, 2, 3, 3, 4, 5, 5, 6, 7] hl h0 (by decide)
  have hgt : ((d + 1 : Nat) : Int) > 0 := by omega
  by_cases c : r = 4
  ·obtain ⟨o, u1, u2, e2, hu⟩ := once_ok l t1 t2 3 hl ht
   obtain ⟨R, h, hP⟩ := hj2 (!o) u1 u2 r 0 hu
   refine ⟨R, Ev.step (fun k => ?_) h, hP⟩
   simp only [spec_l7Draw.l1, if_pos hgt, e, Option.bind_some, if_pos c, e2]
  ·obtain ⟨R, h, hP⟩ := hj2 false t1 t2 r 0 ht
   refine ⟨R, Ev.step (fun k => ?_) h, hP⟩
   simp only [spec_l7Draw.l1, if_pos hgt, e, Option.bind_some, if_neg c]
theorem draw_out (l : List Int) (hl : (l.length : Int) ≤ 1048576) (n : Int) (hn : 0 ≤ n ∧ n ≤ 100) (d : Nat) : ∀ (i : Nat) (X : List S43) (s1 s2 : Int), (i : Int) + d = n → X.length = i → (∀ s ∈ X, s.f2.length ≤ 3) → 0 ≤ s1 →
  ∃ R, Ev (fun k => spec_l7Draw.l0 k n X i l s1 s2) R ∧ Dr l n R := by
 induction d with
 | zero =>
  intro i X s1 s2 hi hX hf h0
  refine ⟨(X, s1, s2), Ev.step (f := fun _ => some (X, s1, s2)) (fun k => ?_) (Ev.now _), ⟨by simp only; omega, hf, h0⟩⟩
  simp only [spec_l7Draw.l0]
  rw [if_neg (by omega)]
 | succ d ih =>
  intro i X s1 s2 hi hX hf h0
  obtain ⟨b, t1, t2, e1, h1⟩ := once_ok l s1 s2 3 hl h0
  obtain ⟨b', u1, u2, e2, h2⟩ := once_ok l t1 t2 3 hl h1
  obtain ⟨r, v1, v2, e3, h3, hr, _⟩ := below_ok l u1 u2 4 hl h2
  obtain ⟨r0, r1⟩ := hr (by omega)
  obtain ⟨q, rfl⟩ : ∃ q : Nat, r = (q : Int) := ⟨r.toNat, by omega⟩
  obtain ⟨R, h, hP⟩ := draw_in l hl n hn X (by omega) i (Dr l n) (fun b b' f s1 s2 hf' h0 => by
   have := ih (i + 1) (X ++ [⟨b, b', f⟩]) s1 s2 (by omega) (by simp; omega) (fun s hs => by
    rcases List.mem_append.mp hs with h | h
    ·exact hf s h
    ·rw [List.mem_singleton] at h
     subst h
     exact hf') h0
   rwa [← nxt (i := i) (by omega)] at this) q b b' [] v1 v2 (by simp; omega) h3
  refine ⟨R, Ev.step (fun k => ?_) h, hP⟩
  simp only [spec_l7Draw.l0]
  rw [if_pos (by omega)]
  simp only [e1, e2, e3, Option.bind_some]
theorem bs {α β : Type} (a : α) (f : α → Option β) : (some a).bind f = f a := by   -- no mere unfolding: else the kernel compares what is bound with what binds
 have h : ∀ o : Option α, o = some a → o.bind f = f a := by
  intro o h
  subst h
  rfl
 exact h _ rfl
def anyEnd (L : List S43) (l : List Int) (v1 v2 c : Int) : Option (List S43 × Int × Int) :=
 if c = 0 then (if 0 < (L.length : Int) then ((spec_l1Below.f l v1 v2 9).bind fun q => ((spec_l1Below.f l q.2.1 q.2.2 (wrap64 ((L.length : Int) + 1))).bind fun p => (if ((rd_T43 L 0).f2).length < 8796093022208 then (some ((L.set (0 : Int).toNat (⟨(rd_T43 L 0).f0, (rd_T43 L 0).f1, (((rd_T43 L 0).f2) ++ [(⟨q.1, p.1⟩ : S45)])⟩ : S43)), p.2.1, p.2.2)) else (none)))) else (none))
 else (if c = 1 then ((spec_l1Below.f l v1 v2 2).bind fun q => (if 0 ≤ (wrap64 ((wrap64 (16 - (L.length : Int))) + q.1)) then (if L.length + (wrap64 ((wrap64 (16 - (L.length : Int))) + q.1) : Int).toNat < 4398046511104 then (some ((L ++ List.replicate (wrap64 ((wrap64 (16 - (L.length : Int))) + q.1) : Int).toNat z43), q.2.1, q.2.2)) else (none)) else (none)))
 else (if c = 2 then (some (([] : List (S43)), v1, v2)) else (some (L, v1, v2))))
theorem any_eq (k : Nat) (l : List Int) (s1 s2 z r t1 t2 u1 u2 c v1 v2 : Int) (L : List S43) (hz : spec_l1Size.f l 6 = some z) (e1 : spec_l1Below.f l s1 s2 z = some (r, t1, t2)) (hk : spec_l7Draw.f k l t1 t2 (wrap64 (2 + r)) = some (L, u1, u2)) (e2 : spec_l1Below.f l u1 u2 25 = some (c, v1, v2)) :
  spec_l7DrawAny.f k l s1 s2 l = anyEnd L l v1 v2 c := by
 unfold spec_l7DrawAny.f anyEnd
 rw [hz, bs, e1, bs]
 dsimp only
 rw [hk, bs]
 dsimp only
 rw [e2, bs]
structure Drawn (R : List S43 × Int × Int) : Prop where
 len : (R.1.length : Int) ≤ 100
 few : ∀ s ∈ R.1, s.f2.length ≤ 4
 at_ : 0 ≤ R.2.1
theorem draw_any (l : List Int) (hl : (l.length : Int) ≤ 1048576) (s1 s2 : Int) (h0 : 0 ≤ s1) : ∃ R, Ev (fun k => spec_l7DrawAny.f k l s1 s2 l) R ∧ Drawn R := by
 obtain ⟨z, hz, z0, z1⟩ : ∃ z, spec_l1Size.f l 6 = some z ∧ 0 < z ∧ z ≤ 6 := by
  unfold spec_l1Size.f
  have e : wrap64 (2 + wrap64 ((l.length : Int) / 20)) = 2 + (l.length : Int) / 20 := by rw [w64 (x := (l.length : Int) / 20) (by omega), w64 (by omega)]
  rw [e]
  by_cases c : 2 + (l.length : Int) / 20 > 6
  ·rw [if_pos c]
   exact ⟨_, rfl, by omega, by omega⟩
  ·rw [if_neg c]
   exact ⟨_, rfl, by omega, by omega⟩
 obtain ⟨r, t1, t2, e1, h1, hr, _⟩ := below_ok l s1 s2 z hl h0
 obtain ⟨r0, r1⟩ := hr z0
 have en : wrap64 (2 + r) = 2 + r := w64 (by omega)
 obtain ⟨⟨L, u1, u2⟩, hd, hD⟩ := draw_out l hl (2 + r) (by omega) (2 + r).toNat 0 [] t1 t2 (by omega) rfl (by simp) h1
 have hlen : (L.length : Int) = 2 + r := hD.len
 have hu : 0 ≤ u1 := hD.at_
 have hfew : ∀ s ∈ L, s.f2.length ≤ 3 := hD.few
 obtain ⟨c, v1, v2, e2, h2, _⟩ := below_ok l u1 u2 25 hl hu
 have hf : Ev (fun k => spec_l7Draw.f k l t1 t2 (wrap64 (2 + r))) (L, u1, u2) := by rw [en]; exact hd
 obtain ⟨K, hK⟩ := hf
 by_cases c0 : c = 0
 ·obtain ⟨x, w1, w2, e3, h3, _⟩ := below_ok l v1 v2 9 hl h2
  obtain ⟨y, x1, x2, e4, h4, _⟩ := below_ok l w1 w2 (wrap64 ((L.length : Int) + 1)) hl h3
  have hL0 : 0 < L.length := by omega
  have er : rd_T43 L 0 = L[0] := by
   have := rd43 L 0 hL0
   rwa [Int.natCast_zero] at this
  have h3' := hfew L[0] (List.getElem_mem hL0)
  rw [← er] at h3'
  have hlim : (rd_T43 L 0).f2.length < 8796093022208 := by omega
  refine ⟨(L.set (0 : Int).toNat ⟨(rd_T43 L 0).f0, (rd_T43 L 0).f1, (rd_T43 L 0).f2 ++ [⟨x, y⟩]⟩, x1, x2), ⟨K, fun k hk => ?_⟩, ⟨by simp; omega, fun s hs => ?_, h4⟩⟩
  rotate_left
  ·rcases List.mem_or_eq_of_mem_set hs with h | h
   ·have := hfew s h
    omega
   ·subst h
    simp
    omega
  ·show spec_l7DrawAny.f k l s1 s2 l = _
   rw [any_eq k l s1 s2 z r t1 t2 u1 u2 c v1 v2 L hz e1 (hK k hk) e2]
   unfold anyEnd
   simp only [bs, if_pos c0, e3, e4, if_pos (show 0 < (L.length : Int) by omega), if_pos hlim]
 by_cases c1 : c = 1
 ·obtain ⟨x, w1, w2, e3, h3, hx, _⟩ := below_ok l v1 v2 2 hl h2
  obtain ⟨x0, x1⟩ := hx (by omega)
  have ew : wrap64 (wrap64 (16 - (L.length : Int)) + x) = 16 - (L.length : Int) + x := by rw [w64 (x := 16 - (L.length : Int)) (by omega), w64 (by omega)]
  refine ⟨(L ++ List.replicate (16 - (L.length : Int) + x).toNat z43, w1, w2), ⟨K, fun k hk => ?_⟩, ⟨by simp; omega, fun s hs => ?_, h3⟩⟩
  rotate_left
  ·rcases List.mem_append.mp hs with h | h
   ·have := hfew s h
    omega
   ·rw [List.eq_of_mem_replicate h]
    decide
  ·show spec_l7DrawAny.f k l s1 s2 l = _
   rw [any_eq k l s1 s2 z r t1 t2 u1 u2 c v1 v2 L hz e1 (hK k hk) e2]
   unfold anyEnd
   simp only [bs, if_neg c0, if_pos c1, e3, ew, if_pos (show 0 ≤ 16 - (L.length : Int) + x by omega), if_pos (show L.length + (16 - (L.length : Int) + x).toNat < 4398046511104 by omega)]
 by_cases c2 : c = 2
 ·refine ⟨([], v1, v2), ⟨K, fun k hk => ?_⟩, ⟨by simp, by simp, h2⟩⟩
  show spec_l7DrawAny.f k l s1 s2 l = _
  rw [any_eq k l s1 s2 z r t1 t2 u1 u2 c v1 v2 L hz e1 (hK k hk) e2]
  unfold anyEnd
  simp only [bs, if_neg c0, if_neg c1, if_pos c2]
 ·refine ⟨(L, v1, v2), ⟨K, fun k hk => ?_⟩, ⟨by simp only; omega, fun s hs => by have := hfew s hs; omega, h2⟩⟩
  show spec_l7DrawAny.f k l s1 s2 l = _
  rw [any_eq k l s1 s2 z r t1 t2 u1 u2 c v1 v2 L hz e1 (hK k hk) e2]
  unfold anyEnd
  simp only [bs, if_neg c0, if_neg c1, if_neg c2]
theorem draw_route (l : List Int) (hl : (l.length : Int) ≤ 1048576) : ∃ (L : List S43) (fr to_ : Int), Ev (fun k => spec_DrawRoute7.f k l) (L, fr, to_) ∧ (L.length : Int) ≤ 100 ∧ (∀ s ∈ L, s.f2.length ≤ 4) ∧ 0 ≤ fr ∧ fr ≤ L.length ∧ -1 ≤ to_ ∧ to_ ≤ (L.length : Int) + 1 := by
 obtain ⟨h, hn⟩ := new_ok l hl
 obtain ⟨⟨L, s1, s2⟩, hA, hD⟩ := draw_any l hl 0 h (Int.le_refl _)
 have h1 : (L.length : Int) ≤ 100 := hD.len
 have h2 : 0 ≤ s1 := hD.at_
 have ew1 : wrap64 ((L.length : Int) + 1) = (L.length : Int) + 1 := w64 (by omega)
 have ew2 : wrap64 ((L.length : Int) + 2) = (L.length : Int) + 2 := w64 (by omega)
 obtain ⟨fr, t1, t2, e1, g1, hr1, _⟩ := below_ok l s1 s2 ((L.length : Int) + 1) hl h2
 obtain ⟨a0, a1⟩ := hr1 (by omega)
 obtain ⟨x, u1, u2, e2, g2, hr2, _⟩ := below_ok l t1 t2 ((L.length : Int) + 2) hl g1
 obtain ⟨b0, b1⟩ := hr2 (by omega)
 obtain ⟨y, v1, v2, e3, g3, hr3, _⟩ := below_ok l u1 u2 12 hl g2
 obtain ⟨y0, y1⟩ := hr3 (by omega)
 have hy : wrap64 (Int.tdiv y 11) = 0 ∨ wrap64 (Int.tdiv y 11) = 1 := by
  rw [Int.tdiv_eq_ediv_of_nonneg y0]
  have : y / 11 = 0 ∨ y / 11 = 1 := by omega
  rcases this with h | h <;> rw [h]
  ·exact .inl (w64 (by omega))
  ·exact .inr (w64 (by omega))
 have hw : wrap64 (x - wrap64 (Int.tdiv y 11)) = x - wrap64 (Int.tdiv y 11) := w64 (by omega)
 refine ⟨L, fr, x - wrap64 (Int.tdiv y 11), Ev.congr (fun k => rfl) (Ev.bind hn (Ev.bind hA ?_)), h1, hD.few, a0, by omega, by omega, by omega⟩
 simp only [ew1, e1, bs, ew2, e2, e3, hw]
 exact Ev.now _

/-! the hops of a way -/
structure Good (fr : Int) (hops : List Int) : Prop where
 alone : ∀ (i : Nat) (h : i < hops.length), (hops.take i).any (· == hops[i]) = false ∧ hops[i] ≠ fr
 few : hops.length ≤ 6
theorem good_snoc {fr a : Int} {hops : List Int} (h : Good fr hops) (h1 : hops.any (· == a) = false) (h2 : a ≠ fr) (h3 : hops.length ≤ 5) : Good fr (hops ++ [a]) := by
 refine ⟨fun i hi => ?_, by simp; omega⟩
 by_cases c : i < hops.length
 ·rw [List.getElem_append_left c, List.take_append_of_le_length (by omega)]
  exact h.alone i c
 ·have e : i = hops.length := by simp at hi; omega
  subst e
  simp only [List.getElem_append_right (Nat.le_refl _), Nat.sub_self, List.take_left]
  exact ⟨h1, h2⟩
def GoodR (fr : Int) (hops : List Int) (a : Int) (R : Int × Int × List Int) : Prop := Good fr R.2.2 ∧ (R.2.2 ++ [R.2.1]).head? = (hops ++ [a]).head? ∧ R.1 ≠ 8 ∧ R.1 ≠ 5
theorem rt_good (L : List S43) (fr : Int) (pv : Bool) : ∀ (d : Nat) (hops : List Int) (a : Int), Good fr hops → GoodR fr hops a (rt L fr pv d hops a)
 | 0, hops, a, hg => ⟨hg, rfl, by simp [rt], by simp [rt]⟩
 | d + 1, hops, a, hg => by
  have hb : ∀ c : Int, c ≠ 8 → c ≠ 5 → GoodR fr hops a (c, a, hops) := fun c h8 h5 => ⟨hg, rfl, h8, h5⟩
  unfold rt
  by_cases c : (decide (a = fr) || (hops.any (· == a) || decide ((hops.length : Int) > 5))) = true
  ·rw [if_pos c]
   exact hb 7 (by decide) (by decide)
  ·rw [if_neg c]
   simp only [Bool.not_eq_true, Bool.or_eq_false_iff, decide_eq_false_iff_not] at c
   obtain ⟨c1, c2, c3⟩ := c
   have hs := good_snoc hg c2 c1 (by omega)
   have hd : ∀ o, (hops ++ [a] ++ [o]).head? = (hops ++ [a]).head? := by
    intro o
    cases hops <;> rfl
   have hn : ∀ o, GoodR fr hops a (rt L fr pv d (hops ++ [a]) o) := by
    intro o
    have := rt_good L fr pv d (hops ++ [a]) o hs
    unfold GoodR at this
    rw [hd] at this
    exact this
   split
   ·exact hb 6 (by decide) (by decide)
   split
   ·exact hn _
   split
   ·split
    ·exact hb 2 (by decide) (by decide)
    ·split
     ·exact hn _
     ·exact hb 3 (by decide) (by decide)
   split
   ·split
    ·exact hn _
    ·exact hb 4 (by decide) (by decide)
   ·exact hb 1 (by decide) (by decide)
theorem route_good (L : List S43) (fr to_ : Int) : ((route L fr to_).1 = 8 ∨ (route L fr to_).1 = 5) ∧ (route L fr to_).2.2 = [] ∨
  ((route L fr to_).1 ≠ 8 ∧ (route L fr to_).1 ≠ 5 ∧ Good fr (route L fr to_).2.2 ∧ ((route L fr to_).2.2 ++ [(route L fr to_).2.1]).head? = some to_) := by
 unfold route
 split
 ·split
  ·exact .inl ⟨.inl rfl, rfl⟩
  ·split
   ·exact .inl ⟨.inr rfl, rfl⟩
   ·have := rt_good L fr (hasO (rd_T43 L fr).f2 7).isSome 7 [] to_ ⟨fun i h => by simp at h, by simp⟩
    exact .inr ⟨this.2.2.1, this.2.2.2, this.1, this.2.1⟩
 ·exact .inl ⟨.inl rfl, rfl⟩
theorem within_ev (l : List Int) (hl : (l.length : Int) ≤ 1048576) (x : Int) : Ev (fun k => laws_within.f k l x) (l.any (· == x)) := by
 have hB : ∀ d i : Nat, i ≤ l.length → l.length - i = d → Ev (fun k => laws_within.l0 k l x i) ((l.drop i).any (· == x)) := by
  intro d
  induction d with
  | zero =>
   intro i hi hd
   rw [List.drop_eq_nil_of_le (by omega)]
   refine Ev.step (f := fun _ => some false) (fun k => ?_) (Ev.now _)
   simp only [laws_within.l0]
   rw [if_neg (by omega)]
  | succ d ih =>
   intro i hi hd
   have hil : i < l.length := by omega
   have er : rd l (i : Int) = l[i] := by simp only [rd, Int.toNat_natCast]; exact getD_at _ _ _ hil
   rw [List.drop_eq_getElem_cons hil, List.any_cons]
   have hu : ∀ k, laws_within.l0 (k + 1) l x i = if l[i] = x then some true else laws_within.l0 k l x ((i + 1 : Nat) : Int) := by
    intro k
    simp only [laws_within.l0]
    rw [if_pos (by omega), if_pos (by omega), er, nxt (by omega)]
   by_cases h : l[i] = x
   ·have e : (l[i] == x) = true := by simp [h]
    rw [e]
    exact Ev.step (f := fun _ => some true) (fun k => by rw [hu, if_pos h]) (Ev.now _)
   ·have e : (l[i] == x) = false := by simp [h]
    rw [e, Bool.false_or]
    exact Ev.step (fun k => by rw [hu, if_neg h]) (ih (i + 1) (by omega) (by omega))
 have := hB l.length 0 (by omega) (by omega)
 rw [List.drop_zero] at this
 exact Ev.congr (fun k => rfl) this
theorem same_ev (l : List Int) (hl : (l.length : Int) ≤ 1048576) : Ev (fun k => laws_sameInts.f k l l) true := by
 refine Ev.congr (fun k => ?_) (gen_eq (n := l.length) hl (fun k i => laws_sameInts.l0 k l l i) (fun k i h0 h1 => ?_) (fun k i h => ?_) l.length 0 (by omega) (by omega) (by omega))
 ·unfold laws_sameInts.f
  rw [if_pos rfl]
 ·simp only [laws_sameInts.l0, if_pos h1, if_pos h0, if_true]
 ·simp only [laws_sameInts.l0]
  rw [if_neg h]

theorem hops_loop (fr to_ c at_ : Int) (hops : List Int) (hg : Good fr hops) (hh : (hops ++ [at_]).head? = some to_) (d : Nat) : ∀ i : Nat, i ≤ hops.length → hops.length - i = d → Ev (fun k => laws_FnHops.l0 k fr to_ i c at_ hops) true := by
 have h6 := hg.few
 induction d with
 | zero =>
  intro i hi hd
  refine Ev.step (f := fun _ => some true) (fun k => ?_) (Ev.now _)
  simp only [laws_FnHops.l0]
  rw [if_neg (by omega), if_pos (by omega)]
  cases hops with
  | nil =>
   have e : at_ = to_ := by simpa using hh
   simp [e]
  | cons x r =>
   have e : x = to_ := by simpa using hh
   rw [if_neg (by simp; omega), if_pos (by simp), if_pos (by simp)]
   simp [rd, e]
 | succ d ih =>
  intro i hi hd
  have hil : i < hops.length := by omega
  have er : rd hops (i : Int) = hops[i] := by simp only [rd, Int.toNat_natCast]; exact getD_at _ _ _ hil
  obtain ⟨h1, h2⟩ := hg.alone i hil
  have hw := within_ev (hops.take i) (by simp; omega) hops[i]
  rw [h1] at hw
  refine Ev.step (fun k => ?_) (Ev.bind hw (f := fun k t => if t = true then some false else if hops[i] = fr then some false else laws_FnHops.l0 k fr to_ ((i + 1 : Nat) : Int) c at_ hops) ?_)
  ·simp only [laws_FnHops.l0]
   rw [if_pos (by omega), if_pos (by omega), if_pos (by omega), er, nxt (by omega), Int.toNat_natCast]
  ·simp only [Bool.false_eq_true, if_false, if_neg h2]
   exact ih (i + 1) (by omega) (by omega)
theorem FnHops : SFnHops.Pure := by
 intro l _
 apply Ev.rounds
 by_cases hb : (l.length : Int) > 1048576
 ·refine Ev.congr (f := fun _ => some true) (fun k => ?_) (Ev.now _)
  unfold laws_FnHops.f laws_big.f
  rw [decide_eq_true hb, Option.bind_some, if_pos rfl]
 ·have hl : (l.length : Int) ≤ 1048576 := by omega
  obtain ⟨L, fr, to_, hD, h1, h2, _⟩ := draw_route l hl
  have hLf : ∀ s ∈ L, (s.f2.length : Int) ≤ 1048576 := fun s hs => by have := h2 s hs; omega
  have hs := sp_route L (by omega) hLf fr to_
  have hi := im_route L (by omega) hLf fr to_
  have hr := route_len L fr to_
  have hg := route_good L fr to_
  obtain ⟨⟨c, a, hops⟩, hR⟩ : ∃ R, R = route L fr to_ := ⟨_, rfl⟩
  rw [← hR] at hs hi hr hg
  simp only at hr hg
  have he : route (List.replicate 2 z43) 0 1 = (1, 1, []) := by decide
  have hz := im_route (List.replicate 2 z43) (by decide) (fun s hs => by rw [List.eq_of_mem_replicate hs]; decide) 0 1
  rw [he] at hz
  have hbig : Ev (fun _ => laws_big.f l) false := by
   unfold laws_big.f
   rw [decide_eq_false hb]
   exact Ev.now _
  refine Ev.congr (fun k => rfl) (Ev.bind hbig ?_)
  simp only [Bool.false_eq_true, if_false]
  refine Ev.bind hD (Ev.bind hi (Ev.bind hs ?_))
  simp only [if_true]
  refine Ev.bind (same_ev hops (by omega)) ?_
  refine Ev.step (fun k => ?_) (Ev.bind hz (f := fun k bt406 => if bt406.1 = 1 then (if c = 8 then laws_FnHops.j1 k fr to_ true c a hops else laws_FnHops.j1 k fr to_ (c == 5) c a hops) else some false) ?_)
  ·simp only [laws_FnHops.j0, Bool.not_true, Bool.false_eq_true, if_false]
  simp only [if_true]
  rcases hg with ⟨h85, hh⟩ | ⟨h8, h5, hg, hh⟩
  ·subst hh
   have hj : Ev (fun k => laws_FnHops.j1 k fr to_ true c a []) true := Ev.step (f := fun _ => some true) (fun k => by simp [laws_FnHops.j1]) (Ev.now _)
   by_cases h8 : c = 8
   ·simp only [if_pos h8]
    exact hj
   ·have e : (c == 5) = true := by simpa using h85.resolve_left h8
    simp only [if_neg h8, e]
    exact hj
  ·have e : (c == 5) = false := by simpa using h5
   simp only [if_neg h8, e]
   refine Ev.step (fun k => ?_) (hops_loop fr to_ c a hops hg hh hops.length 0 (by omega) (by omega))
   simp only [laws_FnHops.j1, Bool.false_eq_true, if_false]
   rfl

end Go.Proofs.Ytkcmdfeiaafdjaa.Pure
