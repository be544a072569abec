/- Play of the program and of the reference agree at every player, leave the player as it was and share nothing. No condition. -/
import Derived.Test.YtbgdmbjipladoaaSFnExactPlay
set_option linter.unusedVariables false
set_option linter.unusedSimpArgs false
namespace Go.Proofs.Ytbgdmbjipladoaa.Pure
open Go.RowKit Go.Proofs.Ytbgdmbjipladoaa.PFnExactPlay Go.Proofs.Ytbgdmbjipladoaa.SFnExactPlay Go.Proofs.YtbgdmbjipladoaaW.PrintWords Go.Proofs.YtbgdmbjipladoaaW.PrintLast Go.Proofs.YtbgdmbjipladoaaW.PrintMore
theorem w64 {x : Int} (h : -9000000000000000000 ≤ x ∧ x ≤ 9000000000000000000) : wrap64 x = x := by unfold wrap64; omega
theorem rd_at (l : List Int) (i : Int) (h0 : 0 ≤ i) (h1 : i < l.length) : l[i.toNat]? = some (rd l i) := by
 simp [rd, List.getD_eq_getElem?_getD, List.getElem?_eq_getElem (show i.toNat < l.length by omega)]

theorem gen_to {α β : Type} (l : List α) (hl : (l.length : Int) ≤ 1048576) (F : Nat → List β → Int → Option (List β)) (g : Int → β)
  (hF : ∀ k m i, 0 ≤ i → i < (l.length : Int) → i < (m.length : Int) → F (k + 1) m i = F k (m.set i.toNat (g i)) (wrap64 (i + 1))) (hE : ∀ k m i, ¬ i < (l.length : Int) → F (k + 1) m i = some m)
  (G : α → β) (hg : ∀ (i : Nat) (h : i < l.length), g i = G l[i]) (d : Nat) : ∀ (i : Int) (m : List β), 0 ≤ i → i ≤ l.length → (l.length : Int) - i = d → m.length = l.length →
  (∀ j : Nat, (j : Int) < i → m[j]? = (l.map G)[j]?) → Ev (fun k => F k m i) (l.map G) := by
 induction d with
 | zero =>
  intro i m h0 h1 hd hm hp
  refine Ev.step (f := fun _ => some (l.map G)) (fun k => ?_) (Ev.now _)
  rw [hE k m i (by omega)]
  congr 1
  apply List.ext_getElem?
  intro j
  by_cases hj : j < l.length
  ·exact hp j (by omega)
  ·rw [List.getElem?_eq_none (by omega), List.getElem?_eq_none (by simp; omega)]
 | succ d ih =>
  intro i m h0 h1 hd hm hp
  have ei : wrap64 (i + 1) = i + 1 := w64 (by omega)
  refine Ev.step (fun k => ?_) (ih (i + 1) (m.set i.toNat (g i)) (by omega) (by omega) (by omega) (by simpa using hm) ?_)
  ·rw [hF k m i h0 (by omega) (by omega), ei]
  ·intro j hj
   by_cases e : j = i.toNat
   ·subst e
    rw [List.getElem?_set_self (by omega), List.getElem?_map, List.getElem?_eq_getElem (show i.toNat < l.length by omega)]
    have := hg i.toNat (by omega)
    rw [Int.toNat_of_nonneg h0] at this
    rw [this]
    rfl
   ·rw [List.getElem?_set_ne (by omega)]
    exact hp j (by omega)
theorem gen_eq {n : Nat} (hl : (n : Int) ≤ 1048576) (F : Nat → Int → Option Bool) (hF : ∀ k i, 0 ≤ i → i < (n : Int) → F (k + 1) i = F k (wrap64 (i + 1))) (hE : ∀ k i, ¬ i < (n : Int) → F (k + 1) i = some true)
  (d : Nat) : ∀ (i : Int), 0 ≤ i → i ≤ n → (n : Int) - i = d → Ev (fun k => F k i) true := by
 induction d with
 | zero =>
  intro i h0 h1 hd
  exact Ev.step (f := fun _ => some true) (fun k => hE k i (by omega)) (Ev.now _)
 | succ d ih =>
  intro i h0 h1 hd
  have ei : wrap64 (i + 1) = i + 1 := w64 (by omega)
  refine Ev.step (fun k => ?_) (ih (i + 1) (by omega) (by omega) (by omega))
  rw [hF k i h0 (by omega), ei]
theorem getD_at {α : Type} (l : List α) (z : α) (i : Nat) (h : i < l.length) : l.getD i z = l[i] := by simp [List.getD_eq_getElem?_getD, h]

theorem in_eq (x a b : Int) : impl_in.f x a b = some (decide (a ≤ x ∧ x ≤ b)) := by
 unfold impl_in.f
 by_cases h : x ≥ a
 ·rw [if_pos h]; simp; intro _; exact h
 ·rw [if_neg h]; simp; omega
theorem l1_eq (x a b : Int) : spec_l1In.f x a b = some (decide (a ≤ x ∧ x ≤ b)) := in_eq x a b
def stepV (n : Int) : Int := ((spec_StepSize.f 60 n).getD 0)
theorem steps : ∀ n : Fin 49, spec_StepSize.f 60 (n.val : Int) = some (stepV (n.val : Int)) ∧ impl_StepSize.f 60 (n.val : Int) = some (stepV (n.val : Int)) ∧ 7 ≤ stepV (n.val : Int) ∧ stepV (n.val : Int) ≤ 3000 := by decide +kernel
theorem step_at (n : Int) (h0 : 0 ≤ n) (h1 : n ≤ 48) : Ev (fun k => spec_StepSize.f k n) (stepV n) ∧ Ev (fun k => impl_StepSize.f k n) (stepV n) ∧ 7 ≤ stepV n ∧ stepV n ≤ 3000 := by
 have h := steps ⟨n.toNat, by omega⟩
 simp only [Int.toNat_of_nonneg h0] at h
 exact ⟨Ev.of (fun k => spec_StepSize.mono n k) h.1, Ev.of (fun k => impl_StepSize.mono n k) h.2.1, h.2.2⟩
/-- The coder behind a number. -/
def clipV (x : Int) : Int := if x > 32767 then 32767 else if x < -32767 then -32767 else x
def moveV (q : Int) : Int := if q < 4 then -1 else 2 * (q - 3)
def rise (s q : Int) : Int := s / 8 + (if q ≥ 4 then s else 0) + (if q % 4 ≥ 2 then s / 2 else 0) + (if q % 2 = 1 then s / 4 else 0)
def diffV (s n : Int) : Int := if n ≥ 8 then -(rise s (n % 8)) else rise s (n % 8)
def nextLast (last step n : Int) : Int := clipV (last + diffV (stepV step) n)
def nextStep (step n : Int) : Int := let t := step + moveV (n % 8); if t < 0 then 0 else if t > 48 then 48 else t
theorem rise_bound (s q : Int) (hs : 7 ≤ s ∧ s ≤ 3000) : 0 ≤ rise s q ∧ rise s q ≤ 6000 := by unfold rise; split <;> split <;> split <;> omega
theorem clip_bound (x : Int) : -32767 ≤ clipV x ∧ clipV x ≤ 32767 := by unfold clipV; split <;> (try split) <;> omega
theorem next_bound (last step n : Int) : (-32767 ≤ nextLast last step n ∧ nextLast last step n ≤ 32767) ∧ 0 ≤ nextStep step n ∧ nextStep step n ≤ 48 := by
 refine ⟨clip_bound _, ?_⟩
 unfold nextStep
 simp only []
 split
 ·omega
 ·split <;> omega

theorem Ev_shift {α : Type} {g f : Nat → Option α} {r : α} (c : Nat) (h : ∀ k, g (k + c) = f k) (k : Ev f r) : Ev g r := by
 obtain ⟨K, hK⟩ := k
 refine ⟨K + c, fun n hn => ?_⟩
 have := h (n - c)
 rw [Nat.sub_add_cancel (by omega)] at this
 rw [this]
 exact hK _ (by omega)
theorem clip_eq (x : Int) : spec_l2Clip.f x = some (clipV x) := by
 unfold spec_l2Clip.f clipV
 by_cases h1 : x > 32767
 ·rw [if_pos h1, if_pos h1]
 ·rw [if_neg h1, if_neg h1]
  by_cases h2 : x < -32767
  ·rw [if_pos h2, if_pos h2]
  ·rw [if_neg h2, if_neg h2]
theorem near_eq (x : Int) : impl_nearer.f x (-32767) 32767 = some (clipV x) := by
 unfold impl_nearer.f clipV mn mx
 congr 1
 split <;> split <;> (try split) <;> omega
def clamp48 (t : Int) : Int := if t < 0 then 0 else if t > 48 then 48 else t
theorem near48_eq (x : Int) : impl_nearer.f x 0 48 = some (clamp48 x) := by
 unfold impl_nearer.f clamp48 mn mx
 congr 1
 split <;> split <;> (try split) <;> omega
def spec3 (last d step m : Int) : Option (Int × Int) := some (clipV (wrap64 (last + d)), clamp48 (wrap64 (step + m)))
theorem j3_eq (k : Nat) (x6 d last step m : Int) (h0 : 0 ≤ x6) (h1 : x6 < 8) (hm : rd [(-1), (-1), (-1), (-1), 2, 4, 6, 8] x6 = m) : spec_l11Next.j3 (k + 1) x6 d last step = spec3 last d step m := by
 simp only [spec_l11Next.j3, Option.bind_some, List.length_cons, List.length_nil, hm, clip_eq]
 rw [if_pos h0, if_pos (by simpa using h1)]
 unfold spec3 clamp48
 by_cases c1 : wrap64 (step + m) < 0
 ·simp [c1]
 ·by_cases c2 : wrap64 (step + m) > 48
  ·simp [c1, c2]
  ·simp [c1, c2]
/-- What a number's bits add. -/
def addV (s n : Int) : Int :=
 let d := wrap64 (Int.tdiv s 8)
 let d := if n % 8 ≥ 4 then wrap64 (d + s) else d
 let d := if n % 4 ≥ 2 then wrap64 (d + wrap64 (Int.tdiv s 2)) else d
 let d := if n % 2 = 1 then wrap64 (d + wrap64 (Int.tdiv s 4)) else d
 if n ≥ 8 then wrap64 (-d) else d
theorem addV_eq (s n : Int) (hs : 7 ≤ s ∧ s ≤ 3000) : addV s n = diffV s n := by
 have e1 : wrap64 (Int.tdiv s 8) = s / 8 := by rw [Int.tdiv_eq_ediv_of_nonneg (by omega)]; exact w64 (by omega)
 have e2 : wrap64 (Int.tdiv s 2) = s / 2 := by rw [Int.tdiv_eq_ediv_of_nonneg (by omega)]; exact w64 (by omega)
 have e3 : wrap64 (Int.tdiv s 4) = s / 4 := by rw [Int.tdiv_eq_ediv_of_nonneg (by omega)]; exact w64 (by omega)
 unfold addV diffV rise
 simp only [e1, e2, e3]
 have a1 : n % 8 % 4 = n % 4 := by omega
 have a2 : n % 8 % 2 = n % 2 := by omega
 rw [a1, a2]
 by_cases c1 : n % 8 ≥ 4 <;> by_cases c2 : n % 4 ≥ 2 <;> by_cases c3 : n % 2 = 1 <;> by_cases c4 : n ≥ 8 <;> simp only [c1, c2, c3, c4, if_true, if_false] <;> (try unfold wrap64) <;> omega
theorem move_at : ∀ n : Fin 16, rd [(-1), (-1), (-1), (-1), 2, 4, 6, 8] ((n.val : Int) % 8) = moveV ((n.val : Int) % 8) := by decide +kernel
theorem moves (n : Int) (h0 : 0 ≤ n) (h1 : n ≤ 15) : rd [(-1), (-1), (-1), (-1), 2, 4, 6, 8] (n % 8) = moveV (n % 8) := by
 have h := move_at ⟨n.toNat, by omega⟩
 simpa only [Int.toNat_of_nonneg h0] using h
theorem next_spec_eq (k : Nat) (last step n : Int) (h0 : 0 ≤ n) (h1 : n ≤ 15) :
  spec_l11Next.f (k + 4) last step n = (spec_StepSize.f (k + 4) step).bind fun s => spec3 last (addV s n) step (moveV (n % 8)) := by
 have hm := moves n h0 h1
 have e8 : Int.tmod n 8 = n % 8 := Int.tmod_eq_emod_of_nonneg h0
 unfold spec_l11Next.f
 rw [e8]
 congr 1
 funext s
 have e4 : Int.tmod (n % 8) 4 = n % 4 := by rw [Int.tmod_eq_emod_of_nonneg (by omega)]; omega
 have e2 : Int.tmod (n % 8) 2 = n % 2 := by rw [Int.tmod_eq_emod_of_nonneg (by omega)]; omega
 have J3 : ∀ d, spec_l11Next.j2 (k + 2) n (n % 8) d last step = spec3 last (if n ≥ 8 then wrap64 (-d) else d) step (moveV (n % 8)) := by
  intro d
  simp only [spec_l11Next.j2]
  by_cases c : n ≥ 8
  ·rw [if_pos c, if_pos c]; exact j3_eq k _ _ _ _ _ (by omega) (by omega) hm
  ·rw [if_neg c, if_neg c]; exact j3_eq k _ _ _ _ _ (by omega) (by omega) hm
 unfold addV
 simp only []
 by_cases c1 : n % 8 ≥ 4 <;> by_cases c2 : n % 4 ≥ 2 <;> by_cases c3 : n % 2 = 1 <;> simp only [spec_l11Next.j0, spec_l11Next.j1, e4, e2, c1, c2, c3, if_true, if_false, J3]
theorem next_spec (last step n : Int) (hl : -32767 ≤ last ∧ last ≤ 32767) (hs : 0 ≤ step ∧ step ≤ 48) (h0 : 0 ≤ n) (h1 : n ≤ 15) : Ev (fun k => spec_l11Next.f k last step n) (nextLast last step n, nextStep step n) := by
 obtain ⟨hS, _, hb⟩ := step_at step hs.1 hs.2
 refine Ev_shift 4 (fun k => next_spec_eq k last step n h0 h1) (Ev.bind (f := fun _ s => spec3 last (addV s n) step (moveV (n % 8))) (a := stepV step) ?_ ?_)
 ·obtain ⟨K, hK⟩ := hS
  exact ⟨K, fun k hk => hK _ (by omega)⟩
 ·have hr := rise_bound (stepV step) (n % 8) hb
  have hd : -6000 ≤ diffV (stepV step) n ∧ diffV (stepV step) n ≤ 6000 := by unfold diffV; split <;> omega
  have hm : -1 ≤ moveV (n % 8) ∧ moveV (n % 8) ≤ 8 := by unfold moveV; split <;> omega
  have e : spec3 last (addV (stepV step) n) step (moveV (n % 8)) = some (nextLast last step n, nextStep step n) := by
   rw [addV_eq _ _ hb]
   unfold spec3 nextLast nextStep clamp48
   rw [w64 (by omega), w64 (by omega)]
  show Ev (fun _ => spec3 last (addV (stepV step) n) step (moveV (n % 8))) _
  rw [e]
  exact Ev.now _
theorem bits_at : ∀ n : Fin 16, Go.bits .and .i64 (n.val : Int) 7 = (n.val : Int) % 8 ∧ Go.bits .and .i64 ((n.val : Int) % 8) 4 = 4 * ((n.val : Int) % 8 / 4) ∧ Go.bits .and .i64 ((n.val : Int) % 8) 2 = 2 * ((n.val : Int) % 4 / 2) ∧ Go.bits .and .i64 ((n.val : Int) % 8) 1 = (n.val : Int) % 2 := by decide +kernel
theorem next_impl_eq (k : Nat) (last step n : Int) (h0 : 0 ≤ n) (h1 : n ≤ 15) :
  impl_Coder_expand.f (k + 4) last step n = (impl_StepSize.f (k + 4) step).bind fun s => spec3 last (addV s n) step (moveV (n % 8)) := by
 have hm := moves n h0 h1
 have hb := bits_at ⟨n.toNat, by omega⟩
 simp only [Int.toNat_of_nonneg h0] at hb
 obtain ⟨b7, b4, b2, b1⟩ := hb
 unfold impl_Coder_expand.f
 congr 1
 funext s
 rw [b7]
 have J2 : ∀ d, impl_Coder_expand.j2 (k + 2) n (n % 8) d last step = spec3 last (if n ≥ 8 then wrap64 (-d) else d) step (moveV (n % 8)) := by
  intro d
  have p1 : 0 ≤ n % 8 := by omega
  have p2 : n % 8 < 8 := by omega
  simp only [impl_Coder_expand.j2, near_eq, near48_eq, Option.bind_some, List.length_cons, List.length_nil, hm]
  unfold spec3
  by_cases c : n ≥ 8
  ·rw [if_pos c, if_pos c, if_pos p1, if_pos (by simpa using p2)]
  ·rw [if_neg c, if_neg c, if_pos p1, if_pos (by simpa using p2)]
 unfold addV
 simp only []
 by_cases c1 : n % 8 ≥ 4 <;> by_cases c2 : n % 4 ≥ 2 <;> by_cases c3 : n % 2 = 1 <;> simp only [impl_Coder_expand.j0, impl_Coder_expand.j1, b4, b2, b1, c1, c2, c3, if_true, if_false, J2] <;>
  (first | rw [if_pos (by omega)] | rw [if_neg (by omega)]) <;> (first | rw [if_pos (by omega)] | rw [if_neg (by omega)]) <;> (first | rw [if_pos (by omega)] | rw [if_neg (by omega)])
theorem next_impl (last step n : Int) (hl : -32767 ≤ last ∧ last ≤ 32767) (hs : 0 ≤ step ∧ step ≤ 48) (h0 : 0 ≤ n) (h1 : n ≤ 15) : Ev (fun k => impl_Coder_expand.f k last step n) (nextLast last step n, nextStep step n) := by
 obtain ⟨_, hS, hb⟩ := step_at step hs.1 hs.2
 refine Ev_shift 4 (fun k => next_impl_eq k last step n h0 h1) (Ev.bind (f := fun _ s => spec3 last (addV s n) step (moveV (n % 8))) (a := stepV step) ?_ ?_)
 ·obtain ⟨K, hK⟩ := hS
  exact ⟨K, fun k hk => hK _ (by omega)⟩
 ·have hr := rise_bound (stepV step) (n % 8) hb
  have hd : -6000 ≤ diffV (stepV step) n ∧ diffV (stepV step) n ≤ 6000 := by unfold diffV; split <;> omega
  have hm : -1 ≤ moveV (n % 8) ∧ moveV (n % 8) ≤ 8 := by unfold moveV; split <;> omega
  have e : spec3 last (addV (stepV step) n) step (moveV (n % 8)) = some (nextLast last step n, nextStep step n) := by
   rw [addV_eq _ _ hb]
   unfold spec3 nextLast nextStep clamp48
   rw [w64 (by omega), w64 (by omega)]
  show Ev (fun _ => spec3 last (addV (stepV step) n) step (moveV (n % 8))) _
  rw [e]
  exact Ev.now _

theorem eq_loop (l : List Int) (hl : (l.length : Int) ≤ 1048576) (d : Nat) : ∀ (i : Int), 0 ≤ i → i ≤ l.length → (l.length : Int) - i = d → Ev (fun k => laws_eqIntS.l0 k l l i) true := by
 induction d with
 | zero =>
  intro i h0 h1 hd
  refine Ev.step (f := fun _ => some true) (fun k => ?_) (Ev.now _)
  simp only [laws_eqIntS.l0]
  rw [if_neg (by omega)]
 | succ d ih =>
  intro i h0 h1 hd
  have ei : wrap64 (i + 1) = i + 1 := w64 (by omega)
  have hlt : i < (l.length : Int) := by omega
  refine Ev.step (fun k => ?_) (ih (i + 1) (by omega) (by omega) (by omega))
  simp only [laws_eqIntS.l0, if_pos hlt, if_pos h0, ei, if_true]
theorem eq_ev (l : List Int) (hl : (l.length : Int) ≤ 1048576) : Ev (fun k => laws_eqIntS.f k l l) true := by
 refine Ev.congr (fun k => ?_) (eq_loop l hl l.length 0 (by omega) (by omega) (by omega))
 unfold laws_eqIntS.f
 rw [if_pos rfl]

def markL (l : List Int) (q : Int) : List Int := (List.range l.length).map fun (i : Nat) => q + (i : Int)
theorem markL_length (l : List Int) (q : Int) : (markL l q).length = l.length := by simp [markL]
theorem markL_at (l : List Int) (q : Int) (j : Nat) (h : j < l.length) : (markL l q)[j]? = some (q + (j : Int)) := by simp [markL, h]
theorem mark_loop (l : List Int) (q : Int) (hl : (l.length : Int) ≤ 1048576) (hq : 0 ≤ q ∧ q ≤ 1000000000000) (d : Nat) : ∀ (i : Int) (m : List Int), 0 ≤ i → i ≤ l.length → (l.length : Int) - i = d → m.length = l.length →
  (∀ j : Nat, (j : Int) < i → m[j]? = some (q + j)) → Ev (fun k => laws_markIntS.l0 k m (q + i) i) (q + l.length, markL l q) := by
 induction d with
 | zero =>
  intro i m h0 h1 hd hm hp
  refine Ev.step (f := fun _ => some (q + l.length, markL l q)) (fun k => ?_) (Ev.now _)
  simp only [laws_markIntS.l0]
  rw [if_neg (by omega)]
  have e1 : q + i = q + l.length := by omega
  have e2 : m = markL l q := by
   apply List.ext_getElem?
   intro j
   by_cases hj : j < l.length
   ·rw [hp j (by omega), markL_at l q j hj]
   ·rw [List.getElem?_eq_none (by omega), List.getElem?_eq_none (by rw [markL_length]; omega)]
  rw [e1, e2]
 | succ d ih =>
  intro i m h0 h1 hd hm hp
  have ei : wrap64 (i + 1) = i + 1 := w64 (by omega)
  have eq : wrap64 (q + i + 1) = q + (i + 1) := by rw [w64 (by omega)]; omega
  refine Ev.step (fun k => ?_) (ih (i + 1) (m.set i.toNat (q + i)) (by omega) (by omega) (by omega) (by simpa using hm) ?_)
  ·simp only [laws_markIntS.l0]
   rw [if_pos (by omega), if_pos h0, ei, eq]
  ·intro j hj
   by_cases e : j = i.toNat
   ·subst e
    rw [List.getElem?_set_self (by omega)]
    congr 1
    omega
   ·rw [List.getElem?_set_ne (by omega)]
    exact hp j (by omega)
theorem mark_ev (l : List Int) (q : Int) (hl : (l.length : Int) ≤ 1048576) (hq : 0 ≤ q ∧ q ≤ 1000000000000) : Ev (fun k => laws_markIntS.f k l q) (q + l.length, markL l q) := by
 have h := mark_loop l q hl hq l.length 0 l (by omega) (by omega) (by omega) rfl (fun j hj => by omega)
 refine Ev.congr (fun k => ?_) h
 unfold laws_markIntS.f
 rw [Int.add_zero]
theorem held_loop (l : List Int) (q : Int) (hl : (l.length : Int) ≤ 1048576) (hq : 0 ≤ q ∧ q ≤ 1000000000000) (d : Nat) : ∀ (i : Int), 0 ≤ i → i ≤ l.length → (l.length : Int) - i = d →
  Ev (fun k => laws_heldIntS.l0 k (markL l q) (q + i) i) (q + l.length) := by
 induction d with
 | zero =>
  intro i h0 h1 hd
  refine Ev.step (f := fun _ => some (q + l.length)) (fun k => ?_) (Ev.now _)
  simp only [laws_heldIntS.l0, markL_length]
  rw [if_neg (by omega)]
  congr 1
  omega
 | succ d ih =>
  intro i h0 h1 hd
  have ei : wrap64 (i + 1) = i + 1 := w64 (by omega)
  have eq : wrap64 (q + i + 1) = q + (i + 1) := by rw [w64 (by omega)]; omega
  have er : rd (markL l q) i = q + i := by
   have h := rd_at (markL l q) i h0 (by rw [markL_length]; omega)
   rw [markL_at l q i.toNat (by omega)] at h
   have := Option.some.inj h
   omega
  refine Ev.step (fun k => ?_) (ih (i + 1) (by omega) (by omega) (by omega))
  simp only [laws_heldIntS.l0, markL_length]
  rw [if_pos (by omega), if_pos h0, er, if_pos rfl, ei, eq]
theorem held_ev (l : List Int) (q : Int) (hl : (l.length : Int) ≤ 1048576) (hq : 0 ≤ q ∧ q ≤ 1000000000000) : Ev (fun k => laws_heldIntS.f k (markL l q) q) (q + l.length) := by
 have h := held_loop l q hl hq l.length 0 (by omega) (by omega) (by omega)
 refine Ev.congr (fun k => ?_) h
 unfold laws_heldIntS.f
 rw [Int.add_zero]

theorem drop_cons (l : List Int) (i : Int) (h0 : 0 ≤ i) (x : Int) (r : List Int) (h : l.drop i.toNat = x :: r) : i < l.length ∧ rd l i = x ∧ l.drop (i + 1).toNat = r := by
 have hl : i.toNat < l.length := by
  by_cases c : i.toNat < l.length
  ·exact c
  ·rw [List.drop_eq_nil_of_le (by omega)] at h
   cases h
 refine ⟨by omega, ?_, ?_⟩
 ·rw [List.drop_eq_getElem_cons hl] at h
  have h1 := (List.cons.inj h).1
  simp only [rd, List.getD_eq_getElem?_getD, List.getElem?_eq_getElem hl, Option.getD_some, h1]
 ·rw [List.drop_eq_getElem_cons hl] at h
  have e : (i + 1).toNat = i.toNat + 1 := by omega
  rw [e]
  exact (List.cons.inj h).2
theorem drop_nil (l : List Int) (i : Int) (h0 : 0 ≤ i) (h : l.drop i.toNat = []) : ¬ i < (l.length : Int) := by
 have := List.drop_eq_nil_iff.1 h
 omega

theorem level_eq (x : Int) : spec_l2Level.f x = some (decide (-32767 ≤ x ∧ x ≤ 32767)) := by
 unfold spec_l2Level.f
 rw [l1_eq]
 rfl
def okC (last step : Int) : Bool := decide (-32767 ≤ last ∧ last ≤ 32767) && decide (0 ≤ step ∧ step ≤ 48)
theorem coder_spec (last step : Int) : spec_l11Coder.f last step = some (okC last step) := by
 unfold spec_l11Coder.f okC
 rw [level_eq]
 simp only [Option.bind_some, l1_eq]
 cases decide (-32767 ≤ last ∧ last ≤ 32767) <;> simp
theorem coder_impl (last step : Int) : impl_coderOk.f last step = some (okC last step) := by
 unfold impl_coderOk.f okC
 simp only [in_eq, Option.bind_some]
 cases decide (-32767 ≤ last ∧ last ≤ 32767) <;> simp
theorem okC_iff {last step : Int} (h : okC last step = true) : (-32767 ≤ last ∧ last ≤ 32767) ∧ (0 ≤ step ∧ step ≤ 48) := by simpa [okC] using h

def exL : List Int → Int → Int → List Int → (List Int × Int × Int × Bool)
 | [], last, step, acc => (acc, last, step, true)
 | n :: r, last, step, acc => if 0 ≤ n ∧ n ≤ 15 then exL r (nextLast last step n) (nextStep step n) (acc ++ [nextLast last step n]) else ([], 0, 0, false)
theorem exL_length : ∀ (r : List Int) (last step : Int) (acc : List Int), (exL r last step acc).1.length ≤ acc.length + r.length
 | [], last, step, acc => by simp [exL]
 | n :: r, last, step, acc => by
  unfold exL
  split
  ·have h := exL_length r (nextLast last step n) (nextStep step n) (acc ++ [nextLast last step n])
   simp only [List.length_append, List.length_cons, List.length_nil] at h ⊢
   omega
  ·simp
theorem ex_impl (l : List Int) (hl : l.length ≤ 300) : ∀ (r : List Int) (i : Int) (last step : Int) (acc : List Int), 0 ≤ i → l.drop i.toNat = r → (-32767 ≤ last ∧ last ≤ 32767) → (0 ≤ step ∧ step ≤ 48) → acc.length ≤ 300 + i.toNat →
  Ev (fun k => impl_Expand.l0 k acc l (l.length : Int) i last step) (exL r last step acc)
 | [], i, last, step, acc, h0, hd, h1, h2, ha => by
  refine Ev.step (f := fun _ => some (acc, last, step, true)) (fun k => ?_) (Ev.now _)
  simp only [impl_Expand.l0]
  rw [if_neg (drop_nil l i h0 hd)]
 | n :: r, i, last, step, acc, h0, hd, h1, h2, ha => by
  obtain ⟨hlt, hrd, hdr⟩ := drop_cons l i h0 n r hd
  have ei : wrap64 (i + 1) = i + 1 := w64 (by omega)
  have ha2 : acc.length < 17592186044416 := by omega
  unfold exL
  by_cases c : 0 ≤ n ∧ n ≤ 15
  ·rw [if_pos c]
   have hb := next_bound last step n
   have ih := ex_impl l hl r (i + 1) (nextLast last step n) (nextStep step n) (acc ++ [nextLast last step n]) (by omega) hdr hb.1 hb.2 (by simp; omega)
   refine Ev.step (fun k => ?_) (Ev.bind (f := fun k (bt : Int × Int) => impl_Expand.l0 k (acc ++ [bt.1]) l (l.length : Int) (i + 1) bt.1 bt.2) (next_impl last step n h1 h2 c.1 c.2) ih)
   simp only [impl_Expand.l0, if_pos hlt, if_pos h0, hrd, in_eq, Option.bind_some, decide_eq_true c, if_true, if_pos ha2, ei]
  ·rw [if_neg c]
   refine Ev.step (f := fun _ => some ([], 0, 0, false)) (fun k => ?_) (Ev.now _)
   simp only [impl_Expand.l0, if_pos hlt, if_pos h0, hrd, in_eq, Option.bind_some, decide_eq_false c, if_false, Bool.false_eq_true]
def expand (last step : Int) (l : List Int) : List Int × Int × Int × Bool := if okC last step = true ∧ l.length ≤ 300 then exL l last step [] else ([], 0, 0, false)
theorem expand_length (last step : Int) (l : List Int) : (expand last step l).1.length ≤ 300 := by
 unfold expand
 split
 ·rename_i h
  have := exL_length l last step []
  simp at this
  omega
 ·simp
theorem expand_impl (last step : Int) (l : List Int) : Ev (fun k => impl_Expand.f k last step l) (expand last step l) := by
 have e : ∀ k, impl_Expand.f k last step l = if okC last step = true then impl_Expand.j0 k l (decide ((l.length : Int) > 300)) last step else impl_Expand.j0 k l true last step := by
  intro k
  unfold impl_Expand.f
  rw [coder_impl]
  rfl
 refine Ev.congr e ?_
 unfold expand
 by_cases c : okC last step = true
 ·simp only [if_pos c, c, true_and]
  by_cases d : l.length ≤ 300
  ·have hd : ¬ (l.length : Int) > 300 := by omega
   rw [if_pos d]
   refine Ev.step (fun k => ?_) (ex_impl l d l 0 last step [] (by omega) rfl (okC_iff c).1 (okC_iff c).2 (by simp))
   simp only [impl_Expand.j0, decide_eq_false hd, Bool.false_eq_true, if_false, if_true]
  ·have hd : (l.length : Int) > 300 := by omega
   rw [if_neg d]
   refine Ev.step (f := fun _ => some ([], 0, 0, false)) (fun k => ?_) (Ev.now _)
   simp only [impl_Expand.j0, decide_eq_true hd, if_true]
 ·simp only [if_neg c]
  rw [if_neg (by simp [c])]
  refine Ev.step (f := fun _ => some ([], 0, 0, false)) (fun k => ?_) (Ev.now _)
  simp only [impl_Expand.j0, if_true]

theorem ex_spec (l : List Int) (hl : l.length ≤ 300) : ∀ (r : List Int) (i : Int) (last step : Int) (acc : List Int), 0 ≤ i → l.drop i.toNat = r → (-32767 ≤ last ∧ last ≤ 32767) → (0 ≤ step ∧ step ≤ 48) → acc.length ≤ 300 + i.toNat →
  Ev (fun k => spec_Expand.l0 k l acc i last step) (exL r last step acc)
 | [], i, last, step, acc, h0, hd, h1, h2, ha => by
  refine Ev.step (f := fun _ => some (acc, last, step, true)) (fun k => ?_) (Ev.now _)
  simp only [spec_Expand.l0]
  rw [if_neg (drop_nil l i h0 hd)]
 | n :: r, i, last, step, acc, h0, hd, h1, h2, ha => by
  obtain ⟨hlt, hrd, hdr⟩ := drop_cons l i h0 n r hd
  have ei : wrap64 (i + 1) = i + 1 := w64 (by omega)
  have ha2 : acc.length < 17592186044416 := by omega
  unfold exL
  by_cases c : 0 ≤ n ∧ n ≤ 15
  ·rw [if_pos c]
   have hb := next_bound last step n
   have ih := ex_spec l hl r (i + 1) (nextLast last step n) (nextStep step n) (acc ++ [nextLast last step n]) (by omega) hdr hb.1 hb.2 (by simp; omega)
   refine Ev.step (fun k => ?_) (Ev.bind (f := fun k (bt : Int × Int) => spec_Expand.l0 k l (acc ++ [bt.1]) (i + 1) bt.1 bt.2) (next_spec last step n h1 h2 c.1 c.2) ih)
   simp only [spec_Expand.l0, if_pos hlt, if_pos h0, hrd, l1_eq, Option.bind_some, decide_eq_true c, if_true, if_pos ha2, ei]
  ·rw [if_neg c]
   refine Ev.step (f := fun _ => some ([], 0, 0, false)) (fun k => ?_) (Ev.now _)
   simp only [spec_Expand.l0, if_pos hlt, if_pos h0, hrd, l1_eq, Option.bind_some, decide_eq_false c, if_false, Bool.false_eq_true]
theorem expand_spec (last step : Int) (l : List Int) : Ev (fun k => spec_Expand.f k last step l) (expand last step l) := by
 have e : ∀ k, spec_Expand.f k last step l = if okC last step = true then spec_Expand.j0 k l [] (decide ((l.length : Int) > 300)) last step else spec_Expand.j0 k l [] true last step := by
  intro k
  unfold spec_Expand.f
  rw [coder_spec]
  rfl
 refine Ev.congr e ?_
 unfold expand
 by_cases c : okC last step = true
 ·simp only [if_pos c, c, true_and]
  by_cases d : l.length ≤ 300
  ·have hd : ¬ (l.length : Int) > 300 := by omega
   rw [if_pos d]
   refine Ev.step (fun k => ?_) (ex_spec l d l 0 last step [] (by omega) rfl (okC_iff c).1 (okC_iff c).2 (by simp))
   simp only [spec_Expand.j0, decide_eq_false hd, Bool.false_eq_true, if_false, if_true]
  ·have hd : (l.length : Int) > 300 := by omega
   rw [if_neg d]
   refine Ev.step (f := fun _ => some ([], 0, 0, false)) (fun k => ?_) (Ev.now _)
   simp only [spec_Expand.j0, decide_eq_true hd, if_true]
 ·simp only [if_neg c]
  rw [if_neg (by simp [c])]
  refine Ev.step (f := fun _ => some ([], 0, 0, false)) (fun k => ?_) (Ev.now _)
  simp only [spec_Expand.j0, if_true]

theorem byteW {x : Int} (h : (Lit.int .u8 x).wf = true) : 0 ≤ x ∧ x ≤ 255 := by
 simp [Lit.wf, IntKind.min, IntKind.max, IntKind.signed, IntKind.bits] at h
 omega
theorem byte_ops : ∀ b : Fin 256, spec_OfFrame.n1 (b.val : Int) = (b.val : Int) / 16 ∧ spec_OfFrame.n2 (b.val : Int) = (b.val : Int) % 16 ∧ impl_OfFrame.n1 (b.val : Int) = (b.val : Int) / 16 ∧ impl_OfFrame.n2 (b.val : Int) = (b.val : Int) % 16 := by decide +kernel
theorem byte_op (b : Int) (h : 0 ≤ b ∧ b ≤ 255) : spec_OfFrame.n1 b = b / 16 ∧ spec_OfFrame.n2 b = b % 16 ∧ impl_OfFrame.n1 b = b / 16 ∧ impl_OfFrame.n2 b = b % 16 := by
 obtain ⟨n, rfl⟩ := Int.eq_ofNat_of_zero_le h.1
 exact byte_ops ⟨n, by omega⟩
/-- The numbers of a frame's bytes. -/
def nums : List Int → List Int
 | [] => []
 | b :: r => b / 16 :: b % 16 :: nums r
theorem flat_nums (f g : Int → Int) : ∀ (l : List Int), (∀ b ∈ l, f b = b / 16 ∧ g b = b % 16) → (l.flatMap fun b => [f b, g b]) = nums l
 | [], _ => rfl
 | b :: r, h => by
  have h1 := h b (by simp)
  have h2 := flat_nums f g r (fun x hx => h x (by simp [hx]))
  simp only [List.flatMap_cons, h1.1, h1.2, h2, nums, List.cons_append, List.nil_append]
theorem ofS (a0 b0 : Int) (r : List Int) (hr : ∀ b ∈ b0 :: r, 0 ≤ b ∧ b ≤ 255) : Ev (fun k => (spec_l2Level.f a0).bind fun t => if t = true then (if rd (b0 :: r) 0 > 48 then some ([], 0, 0, false) else spec_Expand.f k a0 (wrap64 (rd (b0 :: r) 0)) (((b0 :: r).drop 1).flatMap fun b => [spec_OfFrame.n1 b, spec_OfFrame.n2 b])) else some ([], 0, 0, false)) (expand a0 b0 (nums r)) := by
 have hb := hr b0 (by simp)
 have e1 : (((b0 :: r).drop 1).flatMap fun b => [spec_OfFrame.n1 b, spec_OfFrame.n2 b]) = nums r := flat_nums _ _ r (fun b hx => ⟨(byte_op b (hr b (by simp [hx]))).1, (byte_op b (hr b (by simp [hx]))).2.1⟩)
 have e2 : rd (b0 :: r) 0 = b0 := rfl
 rw [e1, e2, w64 (by omega), level_eq]
 by_cases c : -32767 ≤ a0 ∧ a0 ≤ 32767
 ·simp only [decide_eq_true c, Option.bind_some, if_true]
  by_cases d : b0 > 48
  ·have hn : ¬ (okC a0 b0 = true ∧ (nums r).length ≤ 300) := fun h => by have := (okC_iff h.1).2; omega
   simp only [if_pos d, expand, if_neg hn]
   exact Ev.now _
  ·simp only [if_neg d]
   exact expand_spec a0 b0 _
 ·have hn : ¬ (okC a0 b0 = true ∧ (nums r).length ≤ 300) := fun h => c (okC_iff h.1).1
  simp only [decide_eq_false c, Option.bind_some, Bool.false_eq_true, if_false, expand, if_neg hn]
  exact Ev.now _
theorem ofI (a0 b0 : Int) (r : List Int) (hr : ∀ b ∈ b0 :: r, 0 ≤ b ∧ b ≤ 255) : Ev (fun k => impl_Expand.f k a0 (wrap64 (rd (b0 :: r) 0)) (((b0 :: r).drop 1).flatMap fun b => [impl_OfFrame.n1 b, impl_OfFrame.n2 b])) (expand a0 b0 (nums r)) := by
 have hb := hr b0 (by simp)
 have e1 : (((b0 :: r).drop 1).flatMap fun b => [impl_OfFrame.n1 b, impl_OfFrame.n2 b]) = nums r := flat_nums _ _ r (fun b hx => ⟨(byte_op b (hr b (by simp [hx]))).2.2.1, (byte_op b (hr b (by simp [hx]))).2.2.2⟩)
 have e2 : rd (b0 :: r) 0 = b0 := rfl
 rw [e1, e2, w64 (by omega)]
 exact expand_impl a0 b0 _

def toK (x : S41) : S44 := ⟨x.f0, x.f1, x.f2⟩
theorem pk_to (x : S41) : laws_toPacket.f x.f0 x.f1 x.f2.f0 x.f2.f1 x.f2.f2 x.f2.f3 x.f2.f4 x.f2.f5 x.f2.f6 x.f2.f7 x.f2.f8 x.f2.f9 x.f2.f10 x.f2.f11 x.f2.f12 x.f2.f13 x.f2.f14 x.f2.f15 =
  some (x.f0, x.f1, x.f2.f0, x.f2.f1, x.f2.f2, x.f2.f3, x.f2.f4, x.f2.f5, x.f2.f6, x.f2.f7, x.f2.f8, x.f2.f9, x.f2.f10, x.f2.f11, x.f2.f12, x.f2.f13, x.f2.f14, x.f2.f15) := rfl
theorem pks_ev (l : List S41) (hl : (l.length : Int) ≤ 1048576) : Ev (fun k => laws_toPacketS.f k l) (l.map toK) := by
 refine Ev.congr (fun k => ?_) (gen_to l hl (fun k m i => laws_toPacketS.l0 k l m i) (fun i => toK (rd_T41 l i)) (fun k m i h0 h1 h2 => ?_) (fun k m i h => ?_) toK (fun i h => ?_) l.length 0 (List.replicate l.length z44) (by omega) (by omega) (by omega) (by simp) (fun j hj => by omega))
 ·unfold laws_toPacketS.f
  rw [if_pos (by omega), if_pos (by omega)]
  rfl
 ·simp only [laws_toPacketS.l0]
  rw [if_pos h1, if_pos h0]
  simp only [pk_to, Option.bind_some]
  rw [if_pos h2]
  rfl
 ·simp only [laws_toPacketS.l0]
  rw [if_neg h]
 ·show toK (l.getD i z41) = _
  rw [getD_at l z41 i h]
theorem eqPk_ev (l : List S44) (hl : (l.length : Int) ≤ 1048576) : Ev (fun k => laws_eqPacketS.f k l l) true := by
 refine Ev.congr (fun k => ?_) (gen_eq (n := l.length) hl (fun k i => laws_eqPacketS.l0 k l l i) (fun k i h0 h1 => ?_) (fun k i h => ?_) l.length 0 (by omega) (by omega) (by omega))
 ·unfold laws_eqPacketS.f
  rw [if_pos rfl]
 ·simp only [laws_eqPacketS.l0]
  rw [if_pos h1, if_pos h0, if_pos h1]
  simp only [laws_eqPacket.f, laws_eqByteA16.f, if_true, decide_true, Option.bind_some]
 ·simp only [laws_eqPacketS.l0]
  rw [if_neg h]
theorem szPk {l : List S41} (h : ¬ wrap64 (1048576 - (l.length : Int)) < 0) (hm : l.length ≤ maxLen) : (l.length : Int) ≤ 1048576 := by unfold maxLen at hm; unfold wrap64 at h; omega
theorem in_spec (a b c : Int) : spec_l1In.f a b c = some (decide (b ≤ a) && decide (a ≤ c)) := by
 unfold spec_l1In.f
 by_cases q : a ≥ b
 ·rw [if_pos q]; simp [q]
 ·rw [if_neg q]; simp [q]
theorem in_impl (a b c : Int) : impl_in.f a b c = some (decide (b ≤ a) && decide (a ≤ c)) := by
 unfold impl_in.f
 by_cases q : a ≥ b
 ·rw [if_pos q]; simp [q]
 ·rw [if_neg q]; simp [q]
def inV (a b c : Int) : Bool := decide (b ≤ a) && decide (a ≤ c)
def pkV (t s : Int) : Bool := inV t 0 1000000000 && inV s 0 1000000

theorem tick_spec (a : Int) : spec_l4Tick.f a = some (inV a 0 1000000000) := by simp only [spec_l4Tick.f, in_spec, Option.bind_some]; rfl
theorem seq_spec (a : Int) : spec_l12Seq.f a = some (inV a 0 1000000) := by simp only [spec_l12Seq.f, in_spec, Option.bind_some]; rfl
theorem level_spec (a : Int) : spec_l2Level.f a = some (inV a (-32767) 32767) := by simp only [spec_l2Level.f, in_spec, Option.bind_some]; rfl
/-- The packets from number i on: each in order, each near enough. -/
def stFrom (l : List S44) (n : Int) : Nat → Int → Bool
 | 0, _ => true
 | d + 1, i => if pkV (rd_T44 l i).f0 (rd_T44 l i).f1 = true then (if inV (rd_T44 l i).f1 n (wrap64 ((wrap64 (n + 12)) - 1)) = true then (if i > 0 ∧ (rd_T44 l (i - 1)).f1 ≥ (rd_T44 l i).f1 then false else stFrom l n d (i + 1)) else false) else false
theorem st_spec (l : List S44) (hl : (l.length : Int) ≤ 1048576) (n a b c e : Int) (d : Nat) : ∀ i : Int, 0 ≤ i → (l.length : Int) - i = d →
  Ev (fun k => spec_PlayerOk.l0 k i n a b c e l) (stFrom l n d i) := by
 induction d with
 | zero =>
  intro i h0 hd
  refine Ev.step (f := fun _ => some true) (fun k => ?_) (Ev.now _)
  simp only [spec_PlayerOk.l0]
  rw [if_neg (by omega)]
 | succ d ih =>
  intro i h0 hd
  have ei : wrap64 (i + 1) = i + 1 := w64 (by omega)
  have em : wrap64 (i - 1) = i - 1 := w64 (by omega)
  have IH := ih (i + 1) (by omega) (by omega)
  unfold stFrom
  by_cases c1 : pkV (rd_T44 l i).f0 (rd_T44 l i).f1 = true
  ·have e1 : ∀ q0 q1 q2 q3 q4 q5 q6 q7 q8 q9 q10 q11 q12 q13 q14 q15, spec_l12Packet.f (rd_T44 l i).f0 (rd_T44 l i).f1 q0 q1 q2 q3 q4 q5 q6 q7 q8 q9 q10 q11 q12 q13 q14 q15 = some true := by
    intros
    have c1' := c1
    unfold pkV at c1'
    simp only [Bool.and_eq_true] at c1'
    simp only [spec_l12Packet.f, tick_spec, seq_spec, c1'.1, c1'.2, Option.bind_some, if_true]
   rw [if_pos c1]
   by_cases c2 : inV (rd_T44 l i).f1 n (wrap64 ((wrap64 (n + 12)) - 1)) = true
   ·have e2 : spec_l1In.f (rd_T44 l i).f1 n (wrap64 ((wrap64 (n + 12)) - 1)) = some true := (in_spec _ _ _).trans (congrArg some c2)
    rw [if_pos c2]
    by_cases c3 : i > 0
    ·by_cases c4 : (rd_T44 l (i - 1)).f1 ≥ (rd_T44 l i).f1
     ·rw [if_pos ⟨c3, c4⟩]
      refine Ev.step (f := fun _ => some false) (fun k => ?_) (Ev.now _)
      simp only [spec_PlayerOk.l0]
      rw [if_pos (by omega), if_pos h0]
      simp only [e1, e2, Option.bind_some, if_true, em]
      rw [if_pos c3, if_pos (by omega), if_pos (by omega), if_pos c4]
     ·rw [if_neg (by omega)]
      refine Ev.step (fun k => ?_) IH
      simp only [spec_PlayerOk.l0]
      rw [if_pos (by omega), if_pos h0]
      simp only [e1, e2, Option.bind_some, if_true, em, ei]
      rw [if_pos c3, if_pos (by omega), if_pos (by omega), if_neg c4]
    ·rw [if_neg (by omega)]
     refine Ev.step (fun k => ?_) IH
     simp only [spec_PlayerOk.l0]
     rw [if_pos (by omega), if_pos h0]
     simp only [e1, e2, Option.bind_some, if_true, ei]
     rw [if_neg c3]
   ·have e2 : spec_l1In.f (rd_T44 l i).f1 n (wrap64 ((wrap64 (n + 12)) - 1)) = some false := (in_spec _ _ _).trans (congrArg some (by simpa [inV] using c2))
    rw [if_neg c2]
    refine Ev.step (f := fun _ => some false) (fun k => ?_) (Ev.now _)
    simp only [spec_PlayerOk.l0]
    rw [if_pos (by omega), if_pos h0]
    simp only [e1, e2, Option.bind_some, if_true, Bool.false_eq_true, if_false]
  ·have e1 : ∀ q0 q1 q2 q3 q4 q5 q6 q7 q8 q9 q10 q11 q12 q13 q14 q15, spec_l12Packet.f (rd_T44 l i).f0 (rd_T44 l i).f1 q0 q1 q2 q3 q4 q5 q6 q7 q8 q9 q10 q11 q12 q13 q14 q15 = some false := by
    intros
    have c1' := c1
    unfold pkV at c1'
    simp only [spec_l12Packet.f, tick_spec, seq_spec, Option.bind_some]
    by_cases z : inV (rd_T44 l i).f0 0 1000000000 = true
    ·rw [if_pos z]; rw [z] at c1'; simpa using c1'
    ·rw [if_neg z]
   rw [if_neg c1]
   refine Ev.step (f := fun _ => some false) (fun k => ?_) (Ev.now _)
   simp only [spec_PlayerOk.l0]
   rw [if_pos (by omega), if_pos h0]
   simp only [e1, Option.bind_some, Bool.false_eq_true, if_false]
theorem st_impl (l : List S44) (hl : (l.length : Int) ≤ 1048576) (n a b c e : Int) (d : Nat) : ∀ i : Int, 0 ≤ i → (l.length : Int) - i = d →
  Ev (fun k => impl_PlayerOk.l0 k l (l.length : Int) i n a b c e l) (stFrom l n d i) := by
 induction d with
 | zero =>
  intro i h0 hd
  refine Ev.step (f := fun _ => some true) (fun k => ?_) (Ev.now _)
  simp only [impl_PlayerOk.l0]
  rw [if_neg (by omega)]
 | succ d ih =>
  intro i h0 hd
  have ei : wrap64 (i + 1) = i + 1 := w64 (by omega)
  have em : wrap64 (i - 1) = i - 1 := w64 (by omega)
  have IH := ih (i + 1) (by omega) (by omega)
  unfold stFrom
  by_cases c1 : pkV (rd_T44 l i).f0 (rd_T44 l i).f1 = true
  ·have e1 : ∀ q0 q1 q2 q3 q4 q5 q6 q7 q8 q9 q10 q11 q12 q13 q14 q15, impl_packetOk.f (rd_T44 l i).f0 (rd_T44 l i).f1 q0 q1 q2 q3 q4 q5 q6 q7 q8 q9 q10 q11 q12 q13 q14 q15 = some true := by
    intros
    have c1' := c1
    unfold pkV inV at c1'
    simp only [impl_packetOk.f, in_impl, Option.bind_some]
    simp only [Bool.and_eq_true] at c1'
    simp [c1']
   rw [if_pos c1]
   by_cases c2 : inV (rd_T44 l i).f1 n (wrap64 ((wrap64 (n + 12)) - 1)) = true
   ·have e2 : impl_in.f (rd_T44 l i).f1 n (wrap64 ((wrap64 (n + 12)) - 1)) = some true := (in_impl _ _ _).trans (congrArg some c2)
    rw [if_pos c2]
    by_cases c3 : i > 0
    ·by_cases c4 : (rd_T44 l (i - 1)).f1 ≥ (rd_T44 l i).f1
     ·rw [if_pos ⟨c3, c4⟩]
      refine Ev.step (f := fun _ => some false) (fun k => ?_) (Ev.now _)
      simp only [impl_PlayerOk.l0]
      rw [if_pos (by omega), if_pos h0, if_pos (by omega)]
      simp only [e1, e2, Option.bind_some, if_true, em]
      rw [if_pos c3, if_pos (by omega), if_pos (by omega), if_pos c4]
     ·rw [if_neg (by omega)]
      refine Ev.step (fun k => ?_) IH
      simp only [impl_PlayerOk.l0]
      rw [if_pos (by omega), if_pos h0, if_pos (by omega)]
      simp only [e1, e2, Option.bind_some, if_true, em, ei]
      rw [if_pos c3, if_pos (by omega), if_pos (by omega), if_neg c4]
    ·rw [if_neg (by omega)]
     refine Ev.step (fun k => ?_) IH
     simp only [impl_PlayerOk.l0]
     rw [if_pos (by omega), if_pos h0, if_pos (by omega)]
     simp only [e1, e2, Option.bind_some, if_true, ei]
     rw [if_neg c3]
   ·have e2 : impl_in.f (rd_T44 l i).f1 n (wrap64 ((wrap64 (n + 12)) - 1)) = some false := (in_impl _ _ _).trans (congrArg some (by simpa [inV] using c2))
    rw [if_neg c2]
    refine Ev.step (f := fun _ => some false) (fun k => ?_) (Ev.now _)
    simp only [impl_PlayerOk.l0]
    rw [if_pos (by omega), if_pos h0, if_pos (by omega)]
    simp only [e1, e2, Option.bind_some, if_true, Bool.false_eq_true, if_false]
  ·have e1 : ∀ q0 q1 q2 q3 q4 q5 q6 q7 q8 q9 q10 q11 q12 q13 q14 q15, impl_packetOk.f (rd_T44 l i).f0 (rd_T44 l i).f1 q0 q1 q2 q3 q4 q5 q6 q7 q8 q9 q10 q11 q12 q13 q14 q15 = some false := by
    intros
    have c1' := c1
    unfold pkV inV at c1'
    simp only [impl_packetOk.f, in_impl, Option.bind_some]
    by_cases z : (decide (0 ≤ (rd_T44 l i).f0) && decide ((rd_T44 l i).f0 ≤ 1000000000)) = true
    ·rw [if_pos z]; rw [z] at c1'; simpa using c1'
    ·rw [if_neg z]
   rw [if_neg c1]
   refine Ev.step (f := fun _ => some false) (fun k => ?_) (Ev.now _)
   simp only [impl_PlayerOk.l0]
   rw [if_pos (by omega), if_pos h0, if_pos (by omega)]
   simp only [e1, Option.bind_some, Bool.false_eq_true, if_false]
theorem st_grow (l : List S44) (n : Int) (h0 : 0 ≤ n) (h1 : n ≤ 1000000) : ∀ (d : Nat) (i : Int), 0 ≤ i → stFrom l n d i = true → (i > 0 → (rd_T44 l (i - 1)).f1 ≥ n + (i - 1)) → i + d ≤ 12 ∨ d = 0
 | 0, i, hi, _, _ => Or.inr rfl
 | d + 1, i, hi, h, hp => by
  unfold stFrom at h
  split at h
  ·split at h
   ·rename_i c2
    split at h
    ·cases h
    ·rename_i c3
     unfold inV at c2
     simp only [Bool.and_eq_true, decide_eq_true_eq] at c2
     rw [w64 (x := n + 12) (by omega), w64 (by omega)] at c2
     have hcur : (rd_T44 l i).f1 ≥ n + i := by
      by_cases q : i > 0
      ·have := hp q
       omega
      ·omega
     rcases st_grow l n h0 h1 d (i + 1) (by omega) h (fun _ => by rw [show i + 1 - 1 = i by omega]; exact hcur) with q | q
     ·left; omega
     ·left; omega
   ·cases h
  ·cases h
def playerV (n a b c e : Int) (l : List S44) : Bool := inV n 0 1000000 && (inV a 1 12 && (inV b 0 1000000000 && (inV c 0 1000000000 && (inV e (-32767) 32767 && stFrom l n l.length 0))))
theorem playerV_len {n a b c e : Int} {l : List S44} (h : playerV n a b c e l = true) : l.length ≤ 12 ∧ 1 ≤ a ∧ 0 ≤ n ∧ n ≤ 1000000 := by
 unfold playerV at h
 simp only [Bool.and_eq_true] at h
 obtain ⟨h1, h2, h3, h4, h5, h6⟩ := h
 unfold inV at h1 h2
 simp only [Bool.and_eq_true, decide_eq_true_eq] at h1 h2
 rcases st_grow l n h1.1 h1.2 l.length 0 (by omega) h6 (fun q => by omega) with q | q <;> omega
theorem player_spec (n a b c e : Int) (l : List S44) (hl : (l.length : Int) ≤ 1048576) : Ev (fun k => spec_PlayerOk.f k n a b c e l) (playerV n a b c e l) := by
 have J : Ev (fun k => spec_PlayerOk.j0 k true n a b c e l) false := Ev.step (f := fun _ => some false) (fun k => by simp only [spec_PlayerOk.j0, if_true]) (Ev.now _)
 unfold playerV
 refine Ev.congr (fun k => by unfold spec_PlayerOk.f; simp only [seq_spec, tick_spec, level_spec, in_spec, Option.bind_some]; rfl) ?_
 by_cases c1 : inV n 0 1000000 = true
 ·simp only [c1, Bool.true_and, if_true]
  by_cases c2 : inV a 1 12 = true
  ·simp only [c2, Bool.true_and, if_true]
   simp only [show (decide (1 ≤ a) && decide (a ≤ 12)) = true from c2, if_true]
   by_cases c3 : inV b 0 1000000000 = true
   ·simp only [c3, Bool.true_and, if_true]
    by_cases c4 : inV c 0 1000000000 = true
    ·simp only [c4, Bool.true_and, if_true]
     by_cases c5 : inV e (-32767) 32767 = true
     ·simp only [c5, Bool.true_and, Bool.not_true]
      refine Ev.step (fun k => ?_) (st_spec l hl n a b c e l.length 0 (by omega) (by omega))
      simp only [spec_PlayerOk.j0, Bool.false_eq_true, if_false]
     ·simp only [c5, Bool.false_and, Bool.not_false]
      exact J
    ·simp only [c4, Bool.false_and, Bool.false_eq_true, if_false]; exact J
   ·simp only [c3, Bool.false_and, Bool.false_eq_true, if_false]; exact J
  ·simp only [c2, Bool.false_and]
   simp only [show (decide (1 ≤ a) && decide (a ≤ 12)) = false by simpa [inV] using c2, Bool.false_eq_true, if_false]; exact J
 ·simp only [c1, Bool.false_and, Bool.false_eq_true, if_false]; exact J
theorem player_impl (n a b c e : Int) (l : List S44) (hl : (l.length : Int) ≤ 1048576) : Ev (fun k => impl_PlayerOk.f k n a b c e l) (playerV n a b c e l) := by
 have J : Ev (fun k => impl_PlayerOk.j0 k true n a b c e l) false := Ev.step (f := fun _ => some false) (fun k => by simp only [impl_PlayerOk.j0, if_true]) (Ev.now _)
 by_cases cl : (l.length : Int) > 12
 ·have hV : playerV n a b c e l = false := by
   cases q : playerV n a b c e l with
   | false => rfl
   | true => have := (playerV_len q).1; omega
  rw [hV]
  refine Ev.congr (f := fun k => impl_PlayerOk.j0 k true n a b c e l) (fun k => ?_) J
  unfold impl_PlayerOk.f
  simp only [in_impl, Option.bind_some, decide_eq_true cl, ite_self]
 ·unfold playerV
  refine Ev.congr (fun k => by unfold impl_PlayerOk.f; simp only [in_impl, Option.bind_some, decide_eq_false cl]; rfl) ?_
  unfold inV
  by_cases c1 : (decide (0 ≤ n) && decide (n ≤ 1000000)) = true
  ·simp only [c1, Bool.true_and, if_true]
   by_cases c2 : (decide (1 ≤ a) && decide (a ≤ 12)) = true
   ·simp only [c2, Bool.true_and, if_true]
    by_cases c3 : (decide (0 ≤ b) && decide (b ≤ 1000000000)) = true
    ·simp only [c3, Bool.true_and, if_true]
     by_cases c4 : (decide (0 ≤ c) && decide (c ≤ 1000000000)) = true
     ·simp only [c4, Bool.true_and, if_true]
      by_cases c5 : (decide (-32767 ≤ e) && decide (e ≤ 32767)) = true
      ·simp only [c5, Bool.true_and, if_true]
       refine Ev.step (fun k => ?_) (st_impl l hl n a b c e l.length 0 (by omega) (by omega))
       simp only [impl_PlayerOk.j0, Bool.false_eq_true, if_false]
      ·simp only [c5, Bool.false_and, Bool.false_eq_true, if_false]; exact J
     ·simp only [c4, Bool.false_and, Bool.false_eq_true, if_false]; exact J
    ·simp only [c3, Bool.false_and, Bool.false_eq_true, if_false]; exact J
   ·simp only [c2, Bool.false_and, Bool.false_eq_true, if_false]; exact J
  ·simp only [c1, Bool.false_and, Bool.false_eq_true, if_false]; exact J
theorem play_to (n a b c e : Int) (l : List S41) (hl : (l.length : Int) ≤ 1048576) : Ev (fun k => laws_toPlayer.f k n a b c e l) (n, a, b, c, e, l.map toK) := by
 refine Ev.congr (fun k => by unfold laws_toPlayer.f; rfl) (Ev.bind (pks_ev l hl) (Ev.now _))
theorem play_eq (n a b c e : Int) (l : List S44) (hl : (l.length : Int) ≤ 1048576) : Ev (fun k => laws_eqPlayer.f k n a b c e l n a b c e l) true := by
 refine Ev.congr (fun k => by unfold laws_eqPlayer.f; simp only [if_true]; rfl) (Ev.bind (eqPk_ev l hl) ?_)
 simp only [if_true]
 exact Ev.now _

theorem st_sorted (l : List S44) (n : Int) : ∀ (d : Nat) (i : Int), 0 ≤ i → stFrom l n d i = true → (∀ j : Int, i ≤ j → j < i + d → (inV (rd_T44 l j).f1 n (wrap64 ((wrap64 (n + 12)) - 1)) = true ∧ pkV (rd_T44 l j).f0 (rd_T44 l j).f1 = true ∧ (j > 0 → (rd_T44 l (j - 1)).f1 < (rd_T44 l j).f1)))
 | 0, i, hi, _, j, h1, h2 => by omega
 | d + 1, i, hi, h, j, h1, h2 => by
  unfold stFrom at h
  split at h
  ·rename_i c1
   split at h
   ·rename_i c2
    split at h
    ·cases h
    ·rename_i c3
     by_cases q : j = i
     ·subst q
      exact ⟨c2, c1, fun hp => by omega⟩
     ·exact st_sorted l n d (i + 1) (by omega) h j (by omega) (by omega)
   ·cases h
  ·cases h
/-- How many are ahead of a number. -/
def posN (l : List S44) (s : Int) : Nat := (l.takeWhile fun x => decide (x.f1 < s)).length
theorem posN_le (l : List S44) (s : Int) : posN l s ≤ l.length := by
 unfold posN
 exact (List.takeWhile_prefix _).length_le
theorem rd44_get (l : List S44) (j : Nat) (h : j < l.length) : rd_T44 l (j : Int) = l[j] := by
 unfold rd_T44
 rw [Int.toNat_natCast]
 exact getD_at l z44 j h
theorem posN_below (l : List S44) (s : Int) (j : Nat) (h : j < posN l s) : (rd_T44 l (j : Int)).f1 < s := by
 have hj : j < l.length := Nat.lt_of_lt_of_le h (posN_le l s)
 rw [rd44_get l j hj]
 have hp : l[j] = (l.takeWhile fun x => decide (x.f1 < s))[j]'h := ((List.takeWhile_prefix _).getElem h).symm
 have hm : (l.takeWhile fun x => decide (x.f1 < s))[j]'h ∈ l.takeWhile fun x => decide (x.f1 < s) := List.getElem_mem h
 rw [hp]
 have ha := List.all_takeWhile (p := fun x : S44 => decide (x.f1 < s)) (l := l)
 exact of_decide_eq_true (List.all_eq_true.mp ha _ hm)
theorem posN_at : ∀ (l : List S44) (s : Int), posN l s < l.length → s ≤ (rd_T44 l (posN l s : Int)).f1
 | [], s, h => by simp [posN] at h
 | x :: r, s, h => by
  by_cases c : x.f1 < s
  ·have e : posN (x :: r) s = posN r s + 1 := by simp [posN, List.takeWhile_cons, c]
   have hr : posN r s < r.length := by rw [e, List.length_cons] at h; omega
   have ih := posN_at r s hr
   rw [e, rd44_get _ _ (by rw [List.length_cons]; omega), List.getElem_cons_succ, ← rd44_get _ _ hr]
   exact ih
  ·have e : posN (x :: r) s = 0 := by simp [posN, List.takeWhile_cons, c]
   rw [e]
   show s ≤ x.f1
   omega
/-- Sorted: from one place on. -/
theorem sorted_up (l : List S44) (h : ∀ j : Int, 0 < j → j < l.length → (rd_T44 l (j - 1)).f1 < (rd_T44 l j).f1) : ∀ (d : Nat) (i : Int), 0 ≤ i → i + d < l.length → (rd_T44 l i).f1 ≤ (rd_T44 l (i + d)).f1
 | 0, i, _, _ => by simp
 | d + 1, i, h0, h1 => by
  have ih := sorted_up l h d i h0 (by omega)
  have hs := h (i + (d + 1 : Nat)) (by omega) (by omega)
  rw [show i + ((d + 1 : Nat) : Int) - 1 = i + (d : Int) by omega] at hs
  omega
theorem posN_above (l : List S44) (s : Int) (h : ∀ j : Int, 0 < j → j < l.length → (rd_T44 l (j - 1)).f1 < (rd_T44 l j).f1) (j : Int) (h0 : (posN l s : Int) ≤ j) (h1 : j < l.length) : s ≤ (rd_T44 l j).f1 := by
 have ha := posN_at l s (by omega)
 have hu := sorted_up l h (j - posN l s).toNat (posN l s) (by omega) (by omega)
 rw [show (posN l s : Int) + ((j - posN l s).toNat : Int) = j by omega] at hu
 omega
def foundV (l : List S44) (s : Int) : Bool := decide (posN l s < l.length) && (rd_T44 l (posN l s : Int)).f1 == s
theorem own_p (n a b c e : Int) (l : List S44) (h : l.length < 4398046511104) : impl_ownPlayer.f n a b c e l = some (n, a, b, c, e, l) := by
 unfold impl_ownPlayer.f impl_Packet.f
 rw [if_pos h]
 rfl
theorem copy_p (n a b c e : Int) (l : List S44) (h : l.length < 4398046511104) : spec_l12Copy.f n a b c e l = some (n, a, b, c, e, l) := by
 unfold spec_l12Copy.f
 simp only [Option.bind_some, List.length_nil, Nat.zero_add, List.nil_append]
 rw [if_pos h]
theorem pk_spec (K : S44) : spec_l12Packet.f K.f0 K.f1 K.f2.f0 K.f2.f1 K.f2.f2 K.f2.f3 K.f2.f4 K.f2.f5 K.f2.f6 K.f2.f7 K.f2.f8 K.f2.f9 K.f2.f10 K.f2.f11 K.f2.f12 K.f2.f13 K.f2.f14 K.f2.f15 = some (pkV K.f0 K.f1) := by
 simp only [spec_l12Packet.f, tick_spec, seq_spec, Option.bind_some]
 unfold pkV
 cases inV K.f0 0 1000000000 <;> simp
theorem pk_impl (K : S44) : impl_packetOk.f K.f0 K.f1 K.f2.f0 K.f2.f1 K.f2.f2 K.f2.f3 K.f2.f4 K.f2.f5 K.f2.f6 K.f2.f7 K.f2.f8 K.f2.f9 K.f2.f10 K.f2.f11 K.f2.f12 K.f2.f13 K.f2.f14 K.f2.f15 = some (pkV K.f0 K.f1) := by
 simp only [impl_packetOk.f, in_impl, Option.bind_some]
 unfold pkV inV
 cases (decide (0 ≤ K.f0) && decide (K.f0 ≤ 1000000000)) <;> simp
def winV (n s : Int) : Bool := inV s n (wrap64 ((wrap64 (n + 12)) - 1))
def putV (n a b c e : Int) (l : List S44) (K : S44) : Int × Int × Int × Int × Int × List S44 × Bool :=
 if (playerV n a b c e l && (pkV K.f0 K.f1 && !(b == 1000000000))) = true then
  (if (winV n K.f1 && !foundV l K.f1) = true then (n, a, b, c, e, l.take (posN l K.f1) ++ ([K] ++ l.drop (posN l K.f1)), true) else (n, a, wrap64 (b + 1), c, e, l, true))
 else (n, a, b, c, e, l, false)
/-- What a fit player says of its store. -/
theorem store_ok {n a b c e : Int} {l : List S44} (h : playerV n a b c e l = true) : l.length ≤ 12 ∧ (∀ j : Int, 0 ≤ j → j < l.length → 0 ≤ (rd_T44 l j).f1 ∧ (rd_T44 l j).f1 ≤ 2000000) ∧ (∀ j : Int, 0 < j → j < l.length → (rd_T44 l (j - 1)).f1 < (rd_T44 l j).f1) := by
 have hs : stFrom l n l.length 0 = true := by
  unfold playerV at h
  simp only [Bool.and_eq_true] at h
  exact h.2.2.2.2.2
 have hq := st_sorted l n l.length 0 (by omega) hs
 refine ⟨(playerV_len h).1, fun j h0 h1 => ?_, fun j h0 h1 => (hq j (by omega) (by omega)).2.2 h0⟩
 have hp := (hq j h0 (by omega)).2.1
 unfold pkV inV at hp
 simp only [Bool.and_eq_true, decide_eq_true_eq] at hp
 omega
theorem mk_eq (x : S44) (k : Int) : laws_markPacketS.mk x k = ⟨k, k + 1, ⟨(k + 2) % 256, (k + 2 + 1) % 256, (k + 2 + 1 + 1) % 256, (k + 2 + 1 + 1 + 1) % 256, (k + 2 + 1 + 1 + 1 + 1) % 256, (k + 2 + 1 + 1 + 1 + 1 + 1) % 256, (k + 2 + 1 + 1 + 1 + 1 + 1 + 1) % 256, (k + 2 + 1 + 1 + 1 + 1 + 1 + 1 + 1) % 256, (k + 2 + 1 + 1 + 1 + 1 + 1 + 1 + 1 + 1) % 256, (k + 2 + 1 + 1 + 1 + 1 + 1 + 1 + 1 + 1 + 1) % 256, (k + 2 + 1 + 1 + 1 + 1 + 1 + 1 + 1 + 1 + 1 + 1) % 256, (k + 2 + 1 + 1 + 1 + 1 + 1 + 1 + 1 + 1 + 1 + 1 + 1) % 256, (k + 2 + 1 + 1 + 1 + 1 + 1 + 1 + 1 + 1 + 1 + 1 + 1 + 1) % 256, (k + 2 + 1 + 1 + 1 + 1 + 1 + 1 + 1 + 1 + 1 + 1 + 1 + 1 + 1) % 256, (k + 2 + 1 + 1 + 1 + 1 + 1 + 1 + 1 + 1 + 1 + 1 + 1 + 1 + 1 + 1) % 256, (k + 2 + 1 + 1 + 1 + 1 + 1 + 1 + 1 + 1 + 1 + 1 + 1 + 1 + 1 + 1 + 1) % 256⟩⟩ := rfl
theorem hb_ok (x : S44) (k : Int) : laws_heldPacketS.hb (laws_markPacketS.mk x k).f2 (k + 2) 16 = true := by
 rw [mk_eq]
 simp only [laws_heldPacketS.hb, laws_heldPacketS.bs]
 simp [rd]
theorem held_ok : ∀ (l : List S44) (k : Int), laws_heldPacketS.h (laws_markPacketS.m l k) k = k + 18 * (l.length : Int)
 | [], k => by simp [laws_heldPacketS.h, laws_markPacketS.m]
 | x :: r, k => by
  have ih := held_ok r (k + 18)
  have hb := hb_ok x k
  simp only [laws_markPacketS.m, laws_heldPacketS.h]
  rw [hb, if_pos (show (laws_markPacketS.mk x k).f0 = k from rfl), if_pos (show (laws_markPacketS.mk x k).f1 = k + 1 from rfl), if_pos rfl, ih, List.length_cons]
  omega
theorem m_len : ∀ (l : List S44) (k : Int), (laws_markPacketS.m l k).length = l.length
 | [], k => rfl
 | x :: r, k => by simp only [laws_markPacketS.m, List.length_cons, m_len r]
theorem mark_p (n a b c e : Int) (l : List S44) (h : (l.length : Int) ≤ 2000000) : laws_markPlayer.f n a b c e l 1 = some (1 + 18 * (l.length : Int), laws_markPacketS.m l 1) := by
 simp only [laws_markPlayer.f, laws_markPacketS.f]
 rw [if_pos (by omega)]
 rfl
theorem held_p (n a b c e : Int) (l : List S44) (h : (l.length : Int) ≤ 2000000) : laws_heldPlayer.f n a b c e (laws_markPacketS.m l 1) 1 = some (1 + 18 * (l.length : Int)) := by
 simp only [laws_heldPlayer.f, laws_heldPacketS.f, m_len]
 rw [if_pos (by omega)]
 simp only [Option.bind_some, held_ok]
 rw [if_neg (by omega)]

theorem exL_ok : ∀ (r : List Int) (last step : Int) (acc : List Int), (∀ n ∈ r, 0 ≤ n ∧ n ≤ 15) →
  (exL r last step acc).2.2.2 = true ∧ (exL r last step acc).1.length = acc.length + r.length
 | [], last, step, acc, _ => by simp [exL]
 | n :: r, last, step, acc, h => by
  have hn := h n (by simp)
  have ih := exL_ok r (nextLast last step n) (nextStep step n) (acc ++ [nextLast last step n]) (fun x hx => h x (by simp [hx]))
  unfold exL
  rw [if_pos hn]
  exact ⟨ih.1, by rw [ih.2]; simp; omega⟩
theorem nums_ok : ∀ (l : List Int), (∀ b ∈ l, 0 ≤ b ∧ b ≤ 255) → ∀ n ∈ nums l, 0 ≤ n ∧ n ≤ 15
 | [], _ => by simp [nums]
 | b :: r, h => by
  have hb := h b (by simp)
  have ih := nums_ok r (fun x hx => h x (by simp [hx]))
  intro n hn
  simp only [nums, List.mem_cons] at hn
  rcases hn with rfl | rfl | hn
  ·omega
  ·omega
  ·exact ih n hn
theorem nums_len : ∀ (l : List Int), (nums l).length = 2 * l.length
 | [] => rfl
 | b :: r => by simp only [nums, List.length_cons, nums_len r]; omega
def bytes (f : S39) : List Int := [f.f0, f.f1, f.f2, f.f3, f.f4, f.f5, f.f6, f.f7, f.f8, f.f9, f.f10, f.f11, f.f12, f.f13, f.f14, f.f15]
def ofV (last : Int) (f : S39) : List Int × Int × Int × Bool := expand last f.f0 (nums [f.f1, f.f2, f.f3, f.f4, f.f5, f.f6, f.f7, f.f8, f.f9, f.f10, f.f11, f.f12, f.f13, f.f14, f.f15])
theorem of_impl (last : Int) (f : S39) (h : ∀ b ∈ bytes f, 0 ≤ b ∧ b ≤ 255) : Ev (fun k => impl_OfFrame.f k last f.f0 f.f1 f.f2 f.f3 f.f4 f.f5 f.f6 f.f7 f.f8 f.f9 f.f10 f.f11 f.f12 f.f13 f.f14 f.f15) (ofV last f) := ofI last f.f0 _ h
theorem of_spec (last : Int) (f : S39) (h : ∀ b ∈ bytes f, 0 ≤ b ∧ b ≤ 255) : Ev (fun k => spec_OfFrame.f k last f.f0 f.f1 f.f2 f.f3 f.f4 f.f5 f.f6 f.f7 f.f8 f.f9 f.f10 f.f11 f.f12 f.f13 f.f14 f.f15) (ofV last f) := ofS last f.f0 _ h
theorem of_len (last : Int) (f : S39) (h : ∀ b ∈ bytes f, 0 ≤ b ∧ b ≤ 255) (hb : (ofV last f).2.2.2 = true) : (ofV last f).1.length = 30 := by
 have hn := nums_ok [f.f1, f.f2, f.f3, f.f4, f.f5, f.f6, f.f7, f.f8, f.f9, f.f10, f.f11, f.f12, f.f13, f.f14, f.f15] (fun b hx => h b (List.mem_cons_of_mem _ hx))
 unfold ofV expand at hb ⊢
 split at hb
 ·rename_i c
  rw [if_pos c, (exL_ok _ _ _ _ hn).2, nums_len]
  rfl
 ·cases hb
def fadeL : Nat → Int → List Int → Int → List Int
 | 0, _, acc, _ => acc
 | d + 1, e, acc, x => fadeL d e (acc ++ [wrap64 (Int.tdiv (wrap64 (e * (wrap64 (30 - x)))) 30)]) (x + 1)
theorem fadeL_len : ∀ (d : Nat) (e : Int) (acc : List Int) (x : Int), (fadeL d e acc x).length = acc.length + d
 | 0, _, _, _ => rfl
 | d + 1, e, acc, x => by rw [fadeL, fadeL_len d]; simp; omega
theorem fade_impl (n a b c e : Int) (l : List S44) : ∀ (d : Nat) (acc : List Int) (x : Int), 1 ≤ x → x + d = 31 → acc.length + d = 30 →
  Ev (fun k => impl_Play.l0 k acc x n a b c e l) (wrap64 (n + 1), a, b, wrap64 (c + 1), rd (fadeL d e acc x) 29, l, fadeL d e acc x, true)
 | 0, acc, x, hx, h1, h2 => by
  refine Ev.step (f := fun _ => some (wrap64 (n + 1), a, b, wrap64 (c + 1), rd acc 29, l, acc, true)) (fun k => ?_) (Ev.now _)
  simp only [impl_Play.l0]
  rw [if_neg (by omega), if_pos (by omega)]
 | d + 1, acc, x, hx, h1, h2 => by
  have ex : wrap64 (x + 1) = x + 1 := w64 (by omega)
  refine Ev.step (fun k => ?_) (fade_impl n a b c e l d (acc ++ [wrap64 (Int.tdiv (wrap64 (e * (wrap64 (30 - x)))) 30)]) (x + 1) (by omega) (by omega) (by simp; omega))
  simp only [impl_Play.l0]
  rw [if_pos (by omega), if_pos (by omega), ex]
theorem fade_spec (n a b c e : Int) (l : List S44) : ∀ (d : Nat) (acc : List Int) (x : Int), 1 ≤ x → x + d = 31 → acc.length + d = 30 →
  Ev (fun k => spec_Play.l0 k acc x n a b c e l) (wrap64 (n + 1), a, b, wrap64 (c + 1), rd (fadeL d e acc x) 29, l, fadeL d e acc x, true)
 | 0, acc, x, hx, h1, h2 => by
  have el : wrap64 ((acc.length : Int) - 1) = 29 := by rw [w64 (by omega)]; omega
  refine Ev.step (f := fun _ => some (wrap64 (n + 1), a, b, wrap64 (c + 1), rd acc 29, l, acc, true)) (fun k => ?_) (Ev.now _)
  simp only [spec_Play.l0]
  rw [if_neg (by omega), el, if_pos (by omega), if_pos (by omega)]
 | d + 1, acc, x, hx, h1, h2 => by
  have ex : wrap64 (x + 1) = x + 1 := w64 (by omega)
  refine Ev.step (fun k => ?_) (fade_spec n a b c e l d (acc ++ [wrap64 (Int.tdiv (wrap64 (e * (wrap64 (30 - x)))) 30)]) (x + 1) (by omega) (by omega) (by simp; omega))
  simp only [spec_Play.l0]
  rw [if_pos (by omega), if_pos (by omega), ex]
/-- What is played: the levels behind a frame, or what fades. -/
def playOut (n a b c e : Int) (l : List S44) (out : List Int) (ok : Bool) : Int × Int × Int × Int × Int × List S44 × List Int × Bool :=
 if ok = true then (wrap64 (n + 1), a, b, c, rd out 29, l, out, true) else (wrap64 (n + 1), a, b, wrap64 (c + 1), rd (fadeL 30 e [] 1) 29, l, fadeL 30 e [] 1, true)
def playV (n a b c e : Int) (l : List S44) : Int × Int × Int × Int × Int × List S44 × List Int × Bool :=
 if (playerV n a b c e l && (!decide (n = 1000000) && !(c == 1000000000))) = true then
  (if (decide (0 < l.length) && (rd_T44 l 0).f1 == n) = true then playOut n a b c e (l.drop 1) (ofV e (rd_T44 l 0).f2).1 (ofV e (rd_T44 l 0).f2).2.2.2 else playOut n a b c e l [] false)
 else (n, a, b, c, e, l, [], false)
theorem out_impl (n a b c e : Int) (l : List S44) (out : List Int) (ok : Bool) (h : ok = true → out.length = 30) : Ev (fun k => impl_Play.j2 k out ok n a b c e l) (playOut n a b c e l out ok) := by
 unfold playOut
 cases ok with
 | true =>
  refine Ev.step (f := fun _ => some (wrap64 (n + 1), a, b, c, rd out 29, l, out, true)) (fun k => ?_) (by simp only [if_true]; exact Ev.now _)
  have := h rfl
  simp only [impl_Play.j2, if_true]
  rw [if_pos (by omega)]
 | false =>
  simp only [Bool.false_eq_true, if_false]
  refine Ev.step (fun k => ?_) (fade_impl n a b c e l 30 [] 1 (by omega) (by omega) rfl)
  simp only [impl_Play.j2, Bool.false_eq_true, if_false]
theorem out_spec (n a b c e : Int) (l : List S44) (out : List Int) (ok : Bool) (h : ok = true → out.length = 30) : Ev (fun k => spec_Play.j2 k out ok n a b c e l) (playOut n a b c e l out ok) := by
 unfold playOut
 cases ok with
 | true =>
  refine Ev.step (f := fun _ => some (wrap64 (n + 1), a, b, c, rd out 29, l, out, true)) (fun k => ?_) (by simp only [if_true]; exact Ev.now _)
  have := h rfl
  have el : wrap64 ((out.length : Int) - 1) = 29 := by rw [w64 (by omega)]; omega
  simp only [spec_Play.j2, if_true]
  rw [el, if_pos (by omega), if_pos (by omega)]
 | false =>
  simp only [Bool.false_eq_true, if_false]
  refine Ev.step (fun k => ?_) (fade_spec n a b c e l 30 [] 1 (by omega) (by omega) rfl)
  simp only [spec_Play.j2, Bool.false_eq_true, if_false]
theorem play_impl (n a b c e : Int) (l : List S44) (hl : (l.length : Int) ≤ 1048576) (hb : ∀ x ∈ l, ∀ y ∈ bytes x.f2, 0 ≤ y ∧ y ≤ 255) : Ev (fun k => impl_Play.f k n a b c e l) (playV n a b c e l) := by
 have J : Ev (fun k => impl_Play.j0 k true n a b c e l) (n, a, b, c, e, l, [], false) :=
  Ev.step (f := fun _ => some (n, a, b, c, e, l, [], false)) (fun k => by simp only [impl_Play.j0, if_true]) (Ev.now _)
 unfold impl_Play.f
 refine Ev.congr (fun k => by rw [own_p _ _ _ _ _ _ (by omega), Option.bind_some]) (Ev.bind (player_impl n a b c e l hl) ?_)
 unfold playV
 cases hp : playerV n a b c e l with
 | false =>
  simp only [Bool.false_eq_true, if_false, Bool.false_and]
  exact J
 | true =>
  simp only [if_true, Bool.true_and]
  by_cases hn : n = 1000000
  ·simp only [if_pos hn, decide_eq_true hn, Bool.not_true, Bool.false_and, Bool.false_eq_true, if_false]
   exact J
  ·simp only [if_neg hn, decide_eq_false hn, Bool.not_false, Bool.true_and]
   cases hc : c == 1000000000 with
   | true =>
    simp only [Bool.not_true, Bool.false_eq_true, if_false]
    exact J
   | false =>
    simp only [Bool.not_false, if_true]
    by_cases h0 : 0 < l.length
    ·have hm : rd_T44 l 0 ∈ l := by
      have e : rd_T44 l 0 = l[0] := rd44_get l 0 h0
      rw [e]
      exact List.getElem_mem h0
     have hby := hb _ hm
     rw [decide_eq_true h0, Bool.true_and]
     refine Ev.step (f := fun k => impl_Play.j1 k [] false ((rd_T44 l 0).f1 == n) n a b c e l) (fun k => ?_) ?_
     ·simp only [impl_Play.j0, Bool.false_eq_true, if_false]
      rw [if_pos (by omega), if_pos (by omega)]
     cases hq : (rd_T44 l 0).f1 == n with
     | true =>
      simp only [if_true]
      refine Ev.step (fun k => ?_) (Ev.bind (f := fun k (bt : List Int × Int × Int × Bool) => impl_Play.j2 k bt.1 bt.2.2.2 n a b c e (l.drop 1)) (of_impl e (rd_T44 l 0).f2 hby) (out_impl n a b c e (l.drop 1) _ _ (of_len e _ hby)))
      simp only [impl_Play.j1, if_true]
      rw [if_pos (by omega)]
      congr 1
      funext bt
      rw [if_pos (by omega)]
      rfl
     | false =>
      simp only [Bool.false_eq_true, if_false]
      refine Ev.step (fun k => ?_) (out_impl n a b c e l [] false (fun h => by cases h))
      simp only [impl_Play.j1, Bool.false_eq_true, if_false]
    ·rw [decide_eq_false h0, Bool.false_and]
     simp only [Bool.false_eq_true, if_false]
     refine Ev.step (f := fun k => impl_Play.j1 k [] false false n a b c e l) (fun k => ?_) (Ev.step (fun k => ?_) (out_impl n a b c e l [] false (fun h => by cases h)))
     ·simp only [impl_Play.j0, Bool.false_eq_true, if_false]
      rw [if_neg (by omega)]
     ·simp only [impl_Play.j1, Bool.false_eq_true, if_false]
theorem play_spec (n a b c e : Int) (l : List S44) (hl : (l.length : Int) ≤ 1048576) (hb : ∀ x ∈ l, ∀ y ∈ bytes x.f2, 0 ≤ y ∧ y ≤ 255) : Ev (fun k => spec_Play.f k n a b c e l) (playV n a b c e l) := by
 have J : Ev (fun k => spec_Play.j0 k true n a b c e l) (n, a, b, c, e, l, [], false) :=
  Ev.step (f := fun _ => some (n, a, b, c, e, l, [], false)) (fun k => by simp only [spec_Play.j0, if_true]) (Ev.now _)
 unfold spec_Play.f
 refine Ev.congr (fun k => by rw [copy_p _ _ _ _ _ _ (by omega), Option.bind_some]) (Ev.bind (player_spec n a b c e l hl) ?_)
 unfold playV
 cases hp : playerV n a b c e l with
 | false =>
  simp only [Bool.false_eq_true, if_false, Bool.false_and]
  exact J
 | true =>
  simp only [if_true, Bool.true_and]
  by_cases hn : n = 1000000
  ·simp only [if_pos hn, decide_eq_true hn, Bool.not_true, Bool.false_and, Bool.false_eq_true, if_false]
   exact J
  ·simp only [if_neg hn, decide_eq_false hn, Bool.not_false, Bool.true_and]
   cases hc : c == 1000000000 with
   | true =>
    simp only [Bool.not_true, Bool.false_eq_true, if_false]
    exact J
   | false =>
    simp only [Bool.not_false, if_true]
    by_cases h0 : 0 < l.length
    ·have hm : rd_T44 l 0 ∈ l := by
      have e : rd_T44 l 0 = l[0] := rd44_get l 0 h0
      rw [e]
      exact List.getElem_mem h0
     have hby := hb _ hm
     rw [decide_eq_true h0, Bool.true_and]
     refine Ev.step (f := fun k => spec_Play.j1 k [] false ((rd_T44 l 0).f1 == n) n a b c e l) (fun k => ?_) ?_
     ·simp only [spec_Play.j0, Bool.false_eq_true, if_false, Option.bind_some]
      rw [if_pos (by omega), if_pos (by omega)]
     cases hq : (rd_T44 l 0).f1 == n with
     | true =>
      simp only [if_true]
      refine Ev.step (fun k => ?_) (Ev.bind (f := fun k (bt : List Int × Int × Int × Bool) => spec_Play.j2 k bt.1 bt.2.2.2 n a b c e (l.drop 1)) (of_spec e (rd_T44 l 0).f2 hby) (out_spec n a b c e (l.drop 1) _ _ (of_len e _ hby)))
      simp only [spec_Play.j1, if_true]
      rw [if_pos (by omega)]
      congr 1
      funext bt
      rw [if_pos (by omega)]
      rfl
     | false =>
      simp only [Bool.false_eq_true, if_false]
      refine Ev.step (fun k => ?_) (out_spec n a b c e l [] false (fun h => by cases h))
      simp only [spec_Play.j1, Bool.false_eq_true, if_false]
    ·rw [decide_eq_false h0, Bool.false_and]
     simp only [Bool.false_eq_true, if_false]
     refine Ev.step (f := fun k => spec_Play.j1 k [] false false n a b c e l) (fun k => ?_) (Ev.step (fun k => ?_) (out_spec n a b c e l [] false (fun h => by cases h)))
     ·simp only [spec_Play.j0, Bool.false_eq_true, if_false, Option.bind_some]
      rw [if_neg (by omega)]
     ·simp only [spec_Play.j1, Bool.false_eq_true, if_false]
theorem playV_len (n a b c e : Int) (l : List S44) (hl : (l.length : Int) ≤ 1048576) (hb : ∀ x ∈ l, ∀ y ∈ bytes x.f2, 0 ≤ y ∧ y ≤ 255) : ((playV n a b c e l).2.2.2.2.2.1.length : Int) ≤ 1048576 ∧ (playV n a b c e l).2.2.2.2.2.2.1.length ≤ 30 := by
 have ho : ∀ (m : List S44) (out : List Int) (ok : Bool), (m.length : Int) ≤ 1048576 → (ok = true → out.length = 30) → ((playOut n a b c e m out ok).2.2.2.2.2.1.length : Int) ≤ 1048576 ∧ (playOut n a b c e m out ok).2.2.2.2.2.2.1.length ≤ 30 := by
  intro m out ok hm h
  unfold playOut
  split
  ·rename_i q
   exact ⟨hm, Nat.le_of_eq (h q)⟩
  ·exact ⟨hm, by rw [fadeL_len]; simp⟩
 unfold playV
 split
 ·split
  ·rename_i h1 h2
   simp only [Bool.and_eq_true, decide_eq_true_eq] at h2
   have hm : rd_T44 l 0 ∈ l := by
    have e : rd_T44 l 0 = l[0] := rd44_get l 0 h2.1
    rw [e]
    exact List.getElem_mem h2.1
   exact ho _ _ _ (by rw [List.length_drop]; omega) (of_len e _ (hb _ hm))
  ·exact ho _ _ _ hl (fun h => by cases h)
 ·exact ⟨hl, by simp⟩

theorem toK_bytes (l : List S41) (h : ∀ y ∈ l, wf41 y) : ∀ x ∈ l.map toK, ∀ y ∈ bytes x.f2, 0 ≤ y ∧ y ≤ 255 := by
 intro x hx
 obtain ⟨z, hz, rfl⟩ := List.mem_map.1 hx
 have hw := (h z hz).2.2
 obtain ⟨h0, h1, h2, h3, h4, h5, h6, h7, h8, h9, h10, h11, h12, h13, h14, h15⟩ := hw
 intro y hy
 simp only [bytes, toK, List.mem_cons, List.not_mem_nil, or_false] at hy
 rcases hy with rfl | rfl | rfl | rfl | rfl | rfl | rfl | rfl | rfl | rfl | rfl | rfl | rfl | rfl | rfl | rfl <;> exact byteW (by assumption)
theorem FnExactPlay : SFnExactPlay.Pure := by
 intro n a b c e l _ _ _ _ _ hl0
 apply Ev.rounds
 by_cases h : wrap64 (1048576 - (l.length : Int)) < 0
 ·refine Ev.congr (f := fun _ => some true) (fun k => ?_) (Ev.now _)
  simp [laws_FnExactPlay.f, laws_szPlayer.f, laws_szPacketS.f, if_pos h]
 ·have hl := szPk h hl0.2
  have hl2 : ((l.map toK).length : Int) ≤ 1048576 := by simpa using hl
  have hb := toK_bytes l hl0.1
  have hT := play_to n a b c e l hl
  have hS := play_spec n a b c e (l.map toK) hl2 hb
  have hI := play_impl n a b c e (l.map toK) hl2 hb
  have hr := playV_len n a b c e (l.map toK) hl2 hb
  generalize playV n a b c e (l.map toK) = r at hS hI hr
  obtain ⟨r0, r1, r2, r3, r4, rl, ri, rb⟩ := r
  obtain ⟨hr, hi⟩ : (rl.length : Int) ≤ 1048576 ∧ ri.length ≤ 30 := hr
  have E1 := play_eq r0 r1 r2 r3 r4 rl hr
  have E2 := play_eq n a b c e (l.map toK) hl2
  have Q := eq_ev ri (by omega)
  have M := mark_ev ri (1 + 18 * (rl.length : Int)) (by omega) (by omega)
  have H := held_ev ri (1 + 18 * (rl.length : Int)) (by omega) (by omega)
  have J2 : Ev (fun k => laws_FnExactPlay.j2 k (markL ri (1 + 18 * (rl.length : Int))) (1 + 18 * (rl.length : Int) + (ri.length : Int)) false r0 r1 r2 r3 r4 (laws_markPacketS.m rl 1)) true := by
   refine Ev.step (fun k => by simp only [laws_FnExactPlay.j2, Bool.false_eq_true, if_false, held_p _ _ _ _ _ _ (show (rl.length : Int) ≤ 2000000 by omega), Option.bind_some]; rw [if_neg (by omega)]) (Ev.bind H ?_)
   rw [if_neg (by omega), if_pos rfl]
   exact Ev.now _
  refine Ev.congr (fun k => by unfold laws_FnExactPlay.f; simp only [laws_szPlayer.f, laws_szPacketS.f, if_neg h, Option.bind_some]; rfl) (Ev.bind hT (Ev.bind hS (Ev.bind hT (Ev.bind hI (Ev.bind E1 ?_)))))
  simp only [if_true]
  refine Ev.bind Q ?_
  simp only [if_true, bne_self_eq_false]
  refine Ev.step (fun k => by simp only [laws_FnExactPlay.j0, Bool.false_eq_true, if_false]; rfl) (Ev.bind hT (Ev.bind E2 ?_))
  simp only [if_true]
  refine Ev.congr (fun k => by rw [mark_p _ _ _ _ _ _ (by omega), Option.bind_some, if_neg (by omega)]) (Ev.bind E1 ?_)
  simp only [if_true]
  refine Ev.bind Q ?_
  simp only [if_true, bne_self_eq_false]
  refine Ev.step (fun k => by simp only [laws_FnExactPlay.j1, Bool.false_eq_true, if_false, mark_p _ _ _ _ _ _ (show (rl.length : Int) ≤ 2000000 by omega), Option.bind_some]; rfl) (Ev.bind M ?_)
  simp only [held_p _ _ _ _ _ _ (show (rl.length : Int) ≤ 2000000 by omega), Option.bind_some]
  simp only [if_neg (show ¬ (1 + 18 * (rl.length : Int)) < 0 by omega)]
  refine Ev.bind H ?_
  simp only [if_neg (show ¬ (1 + 18 * (rl.length : Int) + (ri.length : Int)) < 0 by omega), if_true]
  refine Ev.bind hT (Ev.bind hI (Ev.bind E1 ?_))
  simp only [if_true]
  refine Ev.bind Q ?_
  simp only [if_true, bne_self_eq_false]
  exact J2

end Go.Proofs.Ytbgdmbjipladoaa.Pure
