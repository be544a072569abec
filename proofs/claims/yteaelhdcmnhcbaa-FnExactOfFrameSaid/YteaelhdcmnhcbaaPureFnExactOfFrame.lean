/- OfFrame of the program and of the reference agree at every level and every frame, and share no memory with one another. No condition. -/
import Derived.Test.YteaelhdcmnhcbaaSFnExactOfFrame
set_option linter.unusedVariables false
set_option linter.unusedSimpArgs false
namespace Go.Proofs.Yteaelhdcmnhcbaa.Pure
open Go.RowKit Go.Proofs.Yteaelhdcmnhcbaa.PFnExactOfFrame Go.Proofs.Yteaelhdcmnhcbaa.SFnExactOfFrame Go.Proofs.YteaelhdcmnhcbaaW.PrintWords Go.Proofs.YteaelhdcmnhcbaaW.PrintLast Go.Proofs.YteaelhdcmnhcbaaW.PrintMore
theorem w64 {x : Int} (h : -9000000000000000000 ≤ x ∧ x ≤ 9000000000000000000) : wrap64 x = x := by unfold wrap64; omega
theorem rd_at (l : List Int) (i : Int) (h0 : 0 ≤ i) (h1 : i < l.length) : l[i.toNat]? = some (rd l i) := by
  simp [rd, List.getD_eq_getElem?_getD, List.getElem?_eq_getElem (show i.toNat < l.length by omega)]

theorem in_eq (x a b : Int) : impl_in.f x a b = some (decide (a ≤ x ∧ x ≤ b)) := by
  unfold impl_in.f
  by_cases h : x ≥ a
  · rw [if_pos h]; simp; intro _; exact h
  · rw [if_neg h]; simp; omega
theorem l1_eq (x a b : Int) : spec_l1In.f x a b = some (decide (a ≤ x ∧ x ≤ b)) := in_eq x a b
def stepV (n : Int) : Int := ((spec_StepSize.f 60 n).getD 0)
theorem steps : ∀ n : Fin 49, spec_StepSize.f 60 (n.val : Int) = some (stepV (n.val : Int)) ∧ impl_StepSize.f 60 (n.val : Int) = some (stepV (n.val : Int)) ∧ 7 ≤ stepV (n.val : Int) ∧ stepV (n.val : Int) ≤ 3000 := by decide +kernel
theorem step_at (n : Int) (h0 : 0 ≤ n) (h1 : n ≤ 48) : Ev (fun k => spec_StepSize.f k n) (stepV n) ∧ Ev (fun k => impl_StepSize.f k n) (stepV n) ∧ 7 ≤ stepV n ∧ stepV n ≤ 3000 := by
  have h := steps ⟨n.toNat, by omega⟩
  simp only [Int.toNat_of_nonneg h0] at h
  exact ⟨Ev.of (fun k => spec_StepSize.mono n k) h.1, Ev.of (fun k => impl_StepSize.mono n k) h.2.1, h.2.2⟩
/-- The coder behind a number. -/
def clipV (x : Int) : Int := if x > 32767 then 32767 else if x < -32767 then -32767 else x
def moveV (q : Int) : Int := if q < 4 then -1 else 2 * (q - 3)
def rise (s q : Int) : Int := s / 8 + (if q ≥ 4 then s else 0) + (if q % 4 ≥ 2 then s / 2 else 0) + (if q % 2 = 1 then s / 4 else 0)
def diffV (s n : Int) : Int := if n ≥ 8 then -(rise s (n % 8)) else rise s (n % 8)
def nextLast (last step n : Int) : Int := clipV (last + diffV (stepV step) n)
def nextStep (step n : Int) : Int := let t := step + moveV (n % 8); if t < 0 then 0 else if t > 48 then 48 else t
theorem rise_bound (s q : Int) (hs : 7 ≤ s ∧ s ≤ 3000) : 0 ≤ rise s q ∧ rise s q ≤ 6000 := by unfold rise; split <;> split <;> split <;> omega
theorem clip_bound (x : Int) : -32767 ≤ clipV x ∧ clipV x ≤ 32767 := by unfold clipV; split <;> (try split) <;> omega
theorem next_bound (last step n : Int) : (-32767 ≤ nextLast last step n ∧ nextLast last step n ≤ 32767) ∧ 0 ≤ nextStep step n ∧ nextStep step n ≤ 48 := by
  refine ⟨clip_bound _, ?_⟩
  unfold nextStep
  simp only []
  split
  · omega
  · split <;> omega

theorem Ev_shift {α : Type} {g f : Nat → Option α} {r : α} (c : Nat) (h : ∀ k, g (k + c) = f k) (k : Ev f r) : Ev g r := by
  obtain ⟨K, hK⟩ := k
  refine ⟨K + c, fun n hn => ?_⟩
  have := h (n - c)
  rw [Nat.sub_add_cancel (by omega)] at this
  rw [this]
  exact hK _ (by omega)
theorem clip_eq (x : Int) : spec_l2Clip.f x = some (clipV x) := by
  unfold spec_l2Clip.f clipV
  by_cases h1 : x > 32767
  · rw [if_pos h1, if_pos h1]
  · rw [if_neg h1, if_neg h1]
    by_cases h2 : x < -32767
    · rw [if_pos h2, if_pos h2]
    · rw [if_neg h2, if_neg h2]
theorem near_eq (x : Int) : impl_nearer.f x (-32767) 32767 = some (clipV x) := by
  unfold impl_nearer.f clipV mn mx
  congr 1
  split <;> split <;> (try split) <;> omega
def clamp48 (t : Int) : Int := if t < 0 then 0 else if t > 48 then 48 else t
theorem near48_eq (x : Int) : impl_nearer.f x 0 48 = some (clamp48 x) := by
  unfold impl_nearer.f clamp48 mn mx
  congr 1
  split <;> split <;> (try split) <;> omega
def spec3 (last d step m : Int) : Option (Int × Int) := some (clipV (wrap64 (last + d)), clamp48 (wrap64 (step + m)))
theorem j3_eq (k : Nat) (x6 d last step m : Int) (h0 : 0 ≤ x6) (h1 : x6 < 8) (hm : rd [(-1), (-1), (-1), (-1), 2, 4, 6, 8] x6 = m) : spec_l11Next.j3 (k + 1) x6 d last step = spec3 last d step m := by
  simp only [spec_l11Next.j3, Option.bind_some, List.length_cons, List.length_nil, hm, clip_eq]
  rw [if_pos h0, if_pos (by simpa using h1)]
  unfold spec3 clamp48
  by_cases c1 : wrap64 (step + m) < 0
  · simp [c1]
  · by_cases c2 : wrap64 (step + m) > 48
    · simp [c1, c2]
    · simp [c1, c2]
/-- What a number's bits add. -/
def addV (s n : Int) : Int :=
  let d := wrap64 (Int.tdiv s 8)
  let d := if n % 8 ≥ 4 then wrap64 (d + s) else d
  let d := if n % 4 ≥ 2 then wrap64 (d + wrap64 (Int.tdiv s 2)) else d
  let d := if n % 2 = 1 then wrap64 (d + wrap64 (Int.tdiv s 4)) else d
  if n ≥ 8 then wrap64 (-d) else d
theorem addV_eq (s n : Int) (hs : 7 ≤ s ∧ s ≤ 3000) : addV s n = diffV s n := by
  have e1 : wrap64 (Int.tdiv s 8) = s / 8 := by rw [Int.tdiv_eq_ediv_of_nonneg (by omega)]; exact w64 (by omega)
  have e2 : wrap64 (Int.tdiv s 2) = s / 2 := by rw [Int.tdiv_eq_ediv_of_nonneg (by omega)]; exact w64 (by omega)
  have e3 : wrap64 (Int.tdiv s 4) = s / 4 := by rw [Int.tdiv_eq_ediv_of_nonneg (by omega)]; exact w64 (by omega)
  unfold addV diffV rise
  simp only [e1, e2, e3]
  have a1 : n % 8 % 4 = n % 4 := by omega
  have a2 : n % 8 % 2 = n % 2 := by omega
  rw [a1, a2]
  by_cases c1 : n % 8 ≥ 4 <;> by_cases c2 : n % 4 ≥ 2 <;> by_cases c3 : n % 2 = 1 <;> by_cases c4 : n ≥ 8 <;> simp only [c1, c2, c3, c4, if_true, if_false] <;> (try unfold wrap64) <;> omega
theorem move_at : ∀ n : Fin 16, rd [(-1), (-1), (-1), (-1), 2, 4, 6, 8] ((n.val : Int) % 8) = moveV ((n.val : Int) % 8) := by decide +kernel
theorem moves (n : Int) (h0 : 0 ≤ n) (h1 : n ≤ 15) : rd [(-1), (-1), (-1), (-1), 2, 4, 6, 8] (n % 8) = moveV (n % 8) := by
  have h := move_at ⟨n.toNat, by omega⟩
  simpa only [Int.toNat_of_nonneg h0] using h
theorem next_spec_eq (k : Nat) (last step n : Int) (h0 : 0 ≤ n) (h1 : n ≤ 15) :
    spec_l11Next.f (k + 4) last step n = (spec_StepSize.f (k + 4) step).bind fun s => spec3 last (addV s n) step (moveV (n % 8)) := by
  have hm := moves n h0 h1
  have e8 : Int.tmod n 8 = n % 8 := Int.tmod_eq_emod_of_nonneg h0
  unfold spec_l11Next.f
  rw [e8]
  congr 1
  funext s
  have e4 : Int.tmod (n % 8) 4 = n % 4 := by rw [Int.tmod_eq_emod_of_nonneg (by omega)]; omega
  have e2 : Int.tmod (n % 8) 2 = n % 2 := by rw [Int.tmod_eq_emod_of_nonneg (by omega)]; omega
  have J3 : ∀ d, spec_l11Next.j2 (k + 2) n (n % 8) d last step = spec3 last (if n ≥ 8 then wrap64 (-d) else d) step (moveV (n % 8)) := by
    intro d
    simp only [spec_l11Next.j2]
    by_cases c : n ≥ 8
    · rw [if_pos c, if_pos c]; exact j3_eq k _ _ _ _ _ (by omega) (by omega) hm
    · rw [if_neg c, if_neg c]; exact j3_eq k _ _ _ _ _ (by omega) (by omega) hm
  unfold addV
  simp only []
  by_cases c1 : n % 8 ≥ 4 <;> by_cases c2 : n % 4 ≥ 2 <;> by_cases c3 : n % 2 = 1 <;> simp only [spec_l11Next.j0, spec_l11Next.j1, e4, e2, c1, c2, c3, if_true, if_false, J3]
theorem next_spec (last step n : Int) (hl : -32767 ≤ last ∧ last ≤ 32767) (hs : 0 ≤ step ∧ step ≤ 48) (h0 : 0 ≤ n) (h1 : n ≤ 15) : Ev (fun k => spec_l11Next.f k last step n) (nextLast last step n, nextStep step n) := by
  obtain ⟨hS, _, hb⟩ := step_at step hs.1 hs.2
  refine Ev_shift 4 (fun k => next_spec_eq k last step n h0 h1) (Ev.bind (f := fun _ s => spec3 last (addV s n) step (moveV (n % 8))) (a := stepV step) ?_ ?_)
  · obtain ⟨K, hK⟩ := hS
    exact ⟨K, fun k hk => hK _ (by omega)⟩
  · have hr := rise_bound (stepV step) (n % 8) hb
    have hd : -6000 ≤ diffV (stepV step) n ∧ diffV (stepV step) n ≤ 6000 := by unfold diffV; split <;> omega
    have hm : -1 ≤ moveV (n % 8) ∧ moveV (n % 8) ≤ 8 := by unfold moveV; split <;> omega
    have e : spec3 last (addV (stepV step) n) step (moveV (n % 8)) = some (nextLast last step n, nextStep step n) := by
      rw [addV_eq _ _ hb]
      unfold spec3 nextLast nextStep clamp48
      rw [w64 (by omega), w64 (by omega)]
    show Ev (fun _ => spec3 last (addV (stepV step) n) step (moveV (n % 8))) _
    rw [e]
    exact Ev.now _
theorem bits_at : ∀ n : Fin 16, Go.bits .and .i64 (n.val : Int) 7 = (n.val : Int) % 8 ∧ Go.bits .and .i64 ((n.val : Int) % 8) 4 = 4 * ((n.val : Int) % 8 / 4) ∧ Go.bits .and .i64 ((n.val : Int) % 8) 2 = 2 * ((n.val : Int) % 4 / 2) ∧ Go.bits .and .i64 ((n.val : Int) % 8) 1 = (n.val : Int) % 2 := by decide +kernel
theorem next_impl_eq (k : Nat) (last step n : Int) (h0 : 0 ≤ n) (h1 : n ≤ 15) :
    impl_Coder_expand.f (k + 4) last step n = (impl_StepSize.f (k + 4) step).bind fun s => spec3 last (addV s n) step (moveV (n % 8)) := by
  have hm := moves n h0 h1
  have hb := bits_at ⟨n.toNat, by omega⟩
  simp only [Int.toNat_of_nonneg h0] at hb
  obtain ⟨b7, b4, b2, b1⟩ := hb
  unfold impl_Coder_expand.f
  congr 1
  funext s
  rw [b7]
  have J2 : ∀ d, impl_Coder_expand.j2 (k + 2) n (n % 8) d last step = spec3 last (if n ≥ 8 then wrap64 (-d) else d) step (moveV (n % 8)) := by
    intro d
    have p1 : 0 ≤ n % 8 := by omega
    have p2 : n % 8 < 8 := by omega
    simp only [impl_Coder_expand.j2, near_eq, near48_eq, Option.bind_some, List.length_cons, List.length_nil, hm]
    unfold spec3
    by_cases c : n ≥ 8
    · rw [if_pos c, if_pos c, if_pos p1, if_pos (by simpa using p2)]
    · rw [if_neg c, if_neg c, if_pos p1, if_pos (by simpa using p2)]
  unfold addV
  simp only []
  by_cases c1 : n % 8 ≥ 4 <;> by_cases c2 : n % 4 ≥ 2 <;> by_cases c3 : n % 2 = 1 <;> simp only [impl_Coder_expand.j0, impl_Coder_expand.j1, b4, b2, b1, c1, c2, c3, if_true, if_false, J2] <;>
    (first | rw [if_pos (by omega)] | rw [if_neg (by omega)]) <;> (first | rw [if_pos (by omega)] | rw [if_neg (by omega)]) <;> (first | rw [if_pos (by omega)] | rw [if_neg (by omega)])
theorem next_impl (last step n : Int) (hl : -32767 ≤ last ∧ last ≤ 32767) (hs : 0 ≤ step ∧ step ≤ 48) (h0 : 0 ≤ n) (h1 : n ≤ 15) : Ev (fun k => impl_Coder_expand.f k last step n) (nextLast last step n, nextStep step n) := by
  obtain ⟨_, hS, hb⟩ := step_at step hs.1 hs.2
  refine Ev_shift 4 (fun k => next_impl_eq k last step n h0 h1) (Ev.bind (f := fun _ s => spec3 last (addV s n) step (moveV (n % 8))) (a := stepV step) ?_ ?_)
  · obtain ⟨K, hK⟩ := hS
    exact ⟨K, fun k hk => hK _ (by omega)⟩
  · have hr := rise_bound (stepV step) (n % 8) hb
    have hd : -6000 ≤ diffV (stepV step) n ∧ diffV (stepV step) n ≤ 6000 := by unfold diffV; split <;> omega
    have hm : -1 ≤ moveV (n % 8) ∧ moveV (n % 8) ≤ 8 := by unfold moveV; split <;> omega
    have e : spec3 last (addV (stepV step) n) step (moveV (n % 8)) = some (nextLast last step n, nextStep step n) := by
      rw [addV_eq _ _ hb]
      unfold spec3 nextLast nextStep clamp48
      rw [w64 (by omega), w64 (by omega)]
    show Ev (fun _ => spec3 last (addV (stepV step) n) step (moveV (n % 8))) _
    rw [e]
    exact Ev.now _

theorem eq_loop (l : List Int) (hl : (l.length : Int) ≤ 1048576) (d : Nat) : ∀ (i : Int), 0 ≤ i → i ≤ l.length → (l.length : Int) - i = d → Ev (fun k => laws_eqIntS.l0 k l l i) true := by
  induction d with
  | zero =>
    intro i h0 h1 hd
    refine Ev.step (f := fun _ => some true) (fun k => ?_) (Ev.now _)
    simp only [laws_eqIntS.l0]
    rw [if_neg (by omega)]
  | succ d ih =>
    intro i h0 h1 hd
    have ei : wrap64 (i + 1) = i + 1 := w64 (by omega)
    have hlt : i < (l.length : Int) := by omega
    refine Ev.step (fun k => ?_) (ih (i + 1) (by omega) (by omega) (by omega))
    simp only [laws_eqIntS.l0, if_pos hlt, if_pos h0, ei, if_true]
theorem eq_ev (l : List Int) (hl : (l.length : Int) ≤ 1048576) : Ev (fun k => laws_eqIntS.f k l l) true := by
  refine Ev.congr (fun k => ?_) (eq_loop l hl l.length 0 (by omega) (by omega) (by omega))
  unfold laws_eqIntS.f
  rw [if_pos rfl]

def markL (l : List Int) (q : Int) : List Int := (List.range l.length).map fun (i : Nat) => q + (i : Int)
theorem markL_length (l : List Int) (q : Int) : (markL l q).length = l.length := by simp [markL]
theorem markL_at (l : List Int) (q : Int) (j : Nat) (h : j < l.length) : (markL l q)[j]? = some (q + (j : Int)) := by simp [markL, h]
theorem mark_loop (l : List Int) (q : Int) (hl : (l.length : Int) ≤ 1048576) (hq : 0 ≤ q ∧ q ≤ 1000000000000) (d : Nat) : ∀ (i : Int) (m : List Int), 0 ≤ i → i ≤ l.length → (l.length : Int) - i = d → m.length = l.length →
    (∀ j : Nat, (j : Int) < i → m[j]? = some (q + j)) → Ev (fun k => laws_markIntS.l0 k m (q + i) i) (q + l.length, markL l q) := by
  induction d with
  | zero =>
    intro i m h0 h1 hd hm hp
    refine Ev.step (f := fun _ => some (q + l.length, markL l q)) (fun k => ?_) (Ev.now _)
    simp only [laws_markIntS.l0]
    rw [if_neg (by omega)]
    have e1 : q + i = q + l.length := by omega
    have e2 : m = markL l q := by
      apply List.ext_getElem?
      intro j
      by_cases hj : j < l.length
      · rw [hp j (by omega), markL_at l q j hj]
      · rw [List.getElem?_eq_none (by omega), List.getElem?_eq_none (by rw [markL_length]; omega)]
    rw [e1, e2]
  | succ d ih =>
    intro i m h0 h1 hd hm hp
    have ei : wrap64 (i + 1) = i + 1 := w64 (by omega)
    have eq : wrap64 (q + i + 1) = q + (i + 1) := by rw [w64 (by omega)]; omega
    refine Ev.step (fun k => ?_) (ih (i + 1) (m.set i.toNat (q + i)) (by omega) (by omega) (by omega) (by simpa using hm) ?_)
    · simp only [laws_markIntS.l0]
      rw [if_pos (by omega), if_pos h0, ei, eq]
    · intro j hj
      by_cases e : j = i.toNat
      · subst e
        rw [List.getElem?_set_self (by omega)]
        congr 1
        omega
      · rw [List.getElem?_set_ne (by omega)]
        exact hp j (by omega)
theorem mark_ev (l : List Int) (q : Int) (hl : (l.length : Int) ≤ 1048576) (hq : 0 ≤ q ∧ q ≤ 1000000000000) : Ev (fun k => laws_markIntS.f k l q) (q + l.length, markL l q) := by
  have h := mark_loop l q hl hq l.length 0 l (by omega) (by omega) (by omega) rfl (fun j hj => by omega)
  refine Ev.congr (fun k => ?_) h
  unfold laws_markIntS.f
  rw [Int.add_zero]
theorem held_loop (l : List Int) (q : Int) (hl : (l.length : Int) ≤ 1048576) (hq : 0 ≤ q ∧ q ≤ 1000000000000) (d : Nat) : ∀ (i : Int), 0 ≤ i → i ≤ l.length → (l.length : Int) - i = d →
    Ev (fun k => laws_heldIntS.l0 k (markL l q) (q + i) i) (q + l.length) := by
  induction d with
  | zero =>
    intro i h0 h1 hd
    refine Ev.step (f := fun _ => some (q + l.length)) (fun k => ?_) (Ev.now _)
    simp only [laws_heldIntS.l0, markL_length]
    rw [if_neg (by omega)]
    congr 1
    omega
  | succ d ih =>
    intro i h0 h1 hd
    have ei : wrap64 (i + 1) = i + 1 := w64 (by omega)
    have eq : wrap64 (q + i + 1) = q + (i + 1) := by rw [w64 (by omega)]; omega
    have er : rd (markL l q) i = q + i := by
      have h := rd_at (markL l q) i h0 (by rw [markL_length]; omega)
      rw [markL_at l q i.toNat (by omega)] at h
      have := Option.some.inj h
      omega
    refine Ev.step (fun k => ?_) (ih (i + 1) (by omega) (by omega) (by omega))
    simp only [laws_heldIntS.l0, markL_length]
    rw [if_pos (by omega), if_pos h0, er, if_pos rfl, ei, eq]
theorem held_ev (l : List Int) (q : Int) (hl : (l.length : Int) ≤ 1048576) (hq : 0 ≤ q ∧ q ≤ 1000000000000) : Ev (fun k => laws_heldIntS.f k (markL l q) q) (q + l.length) := by
  have h := held_loop l q hl hq l.length 0 (by omega) (by omega) (by omega)
  refine Ev.congr (fun k => ?_) h
  unfold laws_heldIntS.f
  rw [Int.add_zero]

theorem drop_cons (l : List Int) (i : Int) (h0 : 0 ≤ i) (x : Int) (r : List Int) (h : l.drop i.toNat = x :: r) : i < l.length ∧ rd l i = x ∧ l.drop (i + 1).toNat = r := by
  have hl : i.toNat < l.length := by
    by_cases c : i.toNat < l.length
    · exact c
    · rw [List.drop_eq_nil_of_le (by omega)] at h
      cases h
  refine ⟨by omega, ?_, ?_⟩
  · rw [List.drop_eq_getElem_cons hl] at h
    have h1 := (List.cons.inj h).1
    simp only [rd, List.getD_eq_getElem?_getD, List.getElem?_eq_getElem hl, Option.getD_some, h1]
  · rw [List.drop_eq_getElem_cons hl] at h
    have e : (i + 1).toNat = i.toNat + 1 := by omega
    rw [e]
    exact (List.cons.inj h).2
theorem drop_nil (l : List Int) (i : Int) (h0 : 0 ≤ i) (h : l.drop i.toNat = []) : ¬ i < (l.length : Int) := by
  have := List.drop_eq_nil_iff.1 h
  omega

theorem level_eq (x : Int) : spec_l2Level.f x = some (decide (-32767 ≤ x ∧ x ≤ 32767)) := by
  unfold spec_l2Level.f
  rw [l1_eq]
  rfl
def okC (last step : Int) : Bool := decide (-32767 ≤ last ∧ last ≤ 32767) && decide (0 ≤ step ∧ step ≤ 48)
theorem coder_spec (last step : Int) : spec_l11Coder.f last step = some (okC last step) := by
  unfold spec_l11Coder.f okC
  rw [level_eq]
  simp only [Option.bind_some, l1_eq]
  cases decide (-32767 ≤ last ∧ last ≤ 32767) <;> simp
theorem coder_impl (last step : Int) : impl_coderOk.f last step = some (okC last step) := by
  unfold impl_coderOk.f okC
  simp only [in_eq, Option.bind_some]
  cases decide (-32767 ≤ last ∧ last ≤ 32767) <;> simp
theorem okC_iff {last step : Int} (h : okC last step = true) : (-32767 ≤ last ∧ last ≤ 32767) ∧ (0 ≤ step ∧ step ≤ 48) := by simpa [okC] using h

def exL : List Int → Int → Int → List Int → (List Int × Int × Int × Bool)
  | [], last, step, acc => (acc, last, step, true)
  | n :: r, last, step, acc => if 0 ≤ n ∧ n ≤ 15 then exL r (nextLast last step n) (nextStep step n) (acc ++ [nextLast last step n]) else ([], 0, 0, false)
theorem exL_length : ∀ (r : List Int) (last step : Int) (acc : List Int), (exL r last step acc).1.length ≤ acc.length + r.length
  | [], last, step, acc => by simp [exL]
  | n :: r, last, step, acc => by
    unfold exL
    split
    · have h := exL_length r (nextLast last step n) (nextStep step n) (acc ++ [nextLast last step n])
      simp only [List.length_append, List.length_cons, List.length_nil] at h ⊢
      omega
    · simp
theorem ex_impl (l : List Int) (hl : l.length ≤ 300) : ∀ (r : List Int) (i : Int) (last step : Int) (acc : List Int), 0 ≤ i → l.drop i.toNat = r → (-32767 ≤ last ∧ last ≤ 32767) → (0 ≤ step ∧ step ≤ 48) → acc.length ≤ 300 + i.toNat →
    Ev (fun k => impl_Expand.l0 k acc l (l.length : Int) i last step) (exL r last step acc)
  | [], i, last, step, acc, h0, hd, h1, h2, ha => by
    refine Ev.step (f := fun _ => some (acc, last, step, true)) (fun k => ?_) (Ev.now _)
    simp only [impl_Expand.l0]
    rw [if_neg (drop_nil l i h0 hd)]
  | n :: r, i, last, step, acc, h0, hd, h1, h2, ha => by
    obtain ⟨hlt, hrd, hdr⟩ := drop_cons l i h0 n r hd
    have ei : wrap64 (i + 1) = i + 1 := w64 (by omega)
    have ha2 : acc.length < 17592186044416 := by omega
    unfold exL
    by_cases c : 0 ≤ n ∧ n ≤ 15
    · rw [if_pos c]
      have hb := next_bound last step n
      have ih := ex_impl l hl r (i + 1) (nextLast last step n) (nextStep step n) (acc ++ [nextLast last step n]) (by omega) hdr hb.1 hb.2 (by simp; omega)
      refine Ev.step (fun k => ?_) (Ev.bind (f := fun k (bt : Int × Int) => impl_Expand.l0 k (acc ++ [bt.1]) l (l.length : Int) (i + 1) bt.1 bt.2) (next_impl last step n h1 h2 c.1 c.2) ih)
      simp only [impl_Expand.l0, if_pos hlt, if_pos h0, hrd, in_eq, Option.bind_some, decide_eq_true c, if_true, if_pos ha2, ei]
    · rw [if_neg c]
      refine Ev.step (f := fun _ => some ([], 0, 0, false)) (fun k => ?_) (Ev.now _)
      simp only [impl_Expand.l0, if_pos hlt, if_pos h0, hrd, in_eq, Option.bind_some, decide_eq_false c, if_false, Bool.false_eq_true]
def expand (last step : Int) (l : List Int) : List Int × Int × Int × Bool := if okC last step = true ∧ l.length ≤ 300 then exL l last step [] else ([], 0, 0, false)
theorem expand_length (last step : Int) (l : List Int) : (expand last step l).1.length ≤ 300 := by
  unfold expand
  split
  · rename_i h
    have := exL_length l last step []
    simp at this
    omega
  · simp
theorem expand_impl (last step : Int) (l : List Int) : Ev (fun k => impl_Expand.f k last step l) (expand last step l) := by
  have e : ∀ k, impl_Expand.f k last step l = if okC last step = true then impl_Expand.j0 k l (decide ((l.length : Int) > 300)) last step else impl_Expand.j0 k l true last step := by
    intro k
    unfold impl_Expand.f
    rw [coder_impl]
    rfl
  refine Ev.congr e ?_
  unfold expand
  by_cases c : okC last step = true
  · simp only [if_pos c, c, true_and]
    by_cases d : l.length ≤ 300
    · have hd : ¬ (l.length : Int) > 300 := by omega
      rw [if_pos d]
      refine Ev.step (fun k => ?_) (ex_impl l d l 0 last step [] (by omega) rfl (okC_iff c).1 (okC_iff c).2 (by simp))
      simp only [impl_Expand.j0, decide_eq_false hd, Bool.false_eq_true, if_false, if_true]
    · have hd : (l.length : Int) > 300 := by omega
      rw [if_neg d]
      refine Ev.step (f := fun _ => some ([], 0, 0, false)) (fun k => ?_) (Ev.now _)
      simp only [impl_Expand.j0, decide_eq_true hd, if_true]
  · simp only [if_neg c]
    rw [if_neg (by simp [c])]
    refine Ev.step (f := fun _ => some ([], 0, 0, false)) (fun k => ?_) (Ev.now _)
    simp only [impl_Expand.j0, if_true]

theorem ex_spec (l : List Int) (hl : l.length ≤ 300) : ∀ (r : List Int) (i : Int) (last step : Int) (acc : List Int), 0 ≤ i → l.drop i.toNat = r → (-32767 ≤ last ∧ last ≤ 32767) → (0 ≤ step ∧ step ≤ 48) → acc.length ≤ 300 + i.toNat →
    Ev (fun k => spec_Expand.l0 k l acc i last step) (exL r last step acc)
  | [], i, last, step, acc, h0, hd, h1, h2, ha => by
    refine Ev.step (f := fun _ => some (acc, last, step, true)) (fun k => ?_) (Ev.now _)
    simp only [spec_Expand.l0]
    rw [if_neg (drop_nil l i h0 hd)]
  | n :: r, i, last, step, acc, h0, hd, h1, h2, ha => by
    obtain ⟨hlt, hrd, hdr⟩ := drop_cons l i h0 n r hd
    have ei : wrap64 (i + 1) = i + 1 := w64 (by omega)
    have ha2 : acc.length < 17592186044416 := by omega
    unfold exL
    by_cases c : 0 ≤ n ∧ n ≤ 15
    · rw [if_pos c]
      have hb := next_bound last step n
      have ih := ex_spec l hl r (i + 1) (nextLast last step n) (nextStep step n) (acc ++ [nextLast last step n]) (by omega) hdr hb.1 hb.2 (by simp; omega)
      refine Ev.step (fun k => ?_) (Ev.bind (f := fun k (bt : Int × Int) => spec_Expand.l0 k l (acc ++ [bt.1]) (i + 1) bt.1 bt.2) (next_spec last step n h1 h2 c.1 c.2) ih)
      simp only [spec_Expand.l0, if_pos hlt, if_pos h0, hrd, l1_eq, Option.bind_some, decide_eq_true c, if_true, if_pos ha2, ei]
    · rw [if_neg c]
      refine Ev.step (f := fun _ => some ([], 0, 0, false)) (fun k => ?_) (Ev.now _)
      simp only [spec_Expand.l0, if_pos hlt, if_pos h0, hrd, l1_eq, Option.bind_some, decide_eq_false c, if_false, Bool.false_eq_true]
theorem expand_spec (last step : Int) (l : List Int) : Ev (fun k => spec_Expand.f k last step l) (expand last step l) := by
  have e : ∀ k, spec_Expand.f k last step l = if okC last step = true then spec_Expand.j0 k l [] (decide ((l.length : Int) > 300)) last step else spec_Expand.j0 k l [] true last step := by
    intro k
    unfold spec_Expand.f
    rw [coder_spec]
    rfl
  refine Ev.congr e ?_
  unfold expand
  by_cases c : okC last step = true
  · simp only [if_pos c, c, true_and]
    by_cases d : l.length ≤ 300
    · have hd : ¬ (l.length : Int) > 300 := by omega
      rw [if_pos d]
      refine Ev.step (fun k => ?_) (ex_spec l d l 0 last step [] (by omega) rfl (okC_iff c).1 (okC_iff c).2 (by simp))
      simp only [spec_Expand.j0, decide_eq_false hd, Bool.false_eq_true, if_false, if_true]
    · have hd : (l.length : Int) > 300 := by omega
      rw [if_neg d]
      refine Ev.step (f := fun _ => some ([], 0, 0, false)) (fun k => ?_) (Ev.now _)
      simp only [spec_Expand.j0, decide_eq_true hd, if_true]
  · simp only [if_neg c]
    rw [if_neg (by simp [c])]
    refine Ev.step (f := fun _ => some ([], 0, 0, false)) (fun k => ?_) (Ev.now _)
    simp only [spec_Expand.j0, if_true]

theorem byteW {x : Int} (h : (Lit.int .u8 x).wf = true) : 0 ≤ x ∧ x ≤ 255 := by
  simp [Lit.wf, IntKind.min, IntKind.max, IntKind.signed, IntKind.bits] at h
  omega
theorem byte_ops : ∀ b : Fin 256, spec_OfFrame.n1 (b.val : Int) = (b.val : Int) / 16 ∧ spec_OfFrame.n2 (b.val : Int) = (b.val : Int) % 16 ∧ impl_OfFrame.n1 (b.val : Int) = (b.val : Int) / 16 ∧ impl_OfFrame.n2 (b.val : Int) = (b.val : Int) % 16 := by decide +kernel
theorem byte_op (b : Int) (h : 0 ≤ b ∧ b ≤ 255) : spec_OfFrame.n1 b = b / 16 ∧ spec_OfFrame.n2 b = b % 16 ∧ impl_OfFrame.n1 b = b / 16 ∧ impl_OfFrame.n2 b = b % 16 := by
  obtain ⟨n, rfl⟩ := Int.eq_ofNat_of_zero_le h.1
  exact byte_ops ⟨n, by omega⟩
/-- The numbers of a frame's bytes. -/
def nums : List Int → List Int
  | [] => []
  | b :: r => b / 16 :: b % 16 :: nums r
theorem flat_nums (f g : Int → Int) : ∀ (l : List Int), (∀ b ∈ l, f b = b / 16 ∧ g b = b % 16) → (l.flatMap fun b => [f b, g b]) = nums l
  | [], _ => rfl
  | b :: r, h => by
    have h1 := h b (by simp)
    have h2 := flat_nums f g r (fun x hx => h x (by simp [hx]))
    simp only [List.flatMap_cons, h1.1, h1.2, h2, nums, List.cons_append, List.nil_append]
theorem ofS (a0 b0 : Int) (r : List Int) (hr : ∀ b ∈ b0 :: r, 0 ≤ b ∧ b ≤ 255) : Ev (fun k => (spec_l2Level.f a0).bind fun t => if t = true then (if rd (b0 :: r) 0 > 48 then some ([], 0, 0, false) else spec_Expand.f k a0 (wrap64 (rd (b0 :: r) 0)) (((b0 :: r).drop 1).flatMap fun b => [spec_OfFrame.n1 b, spec_OfFrame.n2 b])) else some ([], 0, 0, false)) (expand a0 b0 (nums r)) := by
  have hb := hr b0 (by simp)
  have e1 : (((b0 :: r).drop 1).flatMap fun b => [spec_OfFrame.n1 b, spec_OfFrame.n2 b]) = nums r := flat_nums _ _ r (fun b hx => ⟨(byte_op b (hr b (by simp [hx]))).1, (byte_op b (hr b (by simp [hx]))).2.1⟩)
  have e2 : rd (b0 :: r) 0 = b0 := rfl
  rw [e1, e2, w64 (by omega), level_eq]
  by_cases c : -32767 ≤ a0 ∧ a0 ≤ 32767
  · simp only [decide_eq_true c, Option.bind_some, if_true]
    by_cases d : b0 > 48
    · have hn : ¬ (okC a0 b0 = true ∧ (nums r).length ≤ 300) := fun h => by have := (okC_iff h.1).2; omega
      simp only [if_pos d, expand, if_neg hn]
      exact Ev.now _
    · simp only [if_neg d]
      exact expand_spec a0 b0 _
  · have hn : ¬ (okC a0 b0 = true ∧ (nums r).length ≤ 300) := fun h => c (okC_iff h.1).1
    simp only [decide_eq_false c, Option.bind_some, Bool.false_eq_true, if_false, expand, if_neg hn]
    exact Ev.now _
theorem ofI (a0 b0 : Int) (r : List Int) (hr : ∀ b ∈ b0 :: r, 0 ≤ b ∧ b ≤ 255) : Ev (fun k => impl_Expand.f k a0 (wrap64 (rd (b0 :: r) 0)) (((b0 :: r).drop 1).flatMap fun b => [impl_OfFrame.n1 b, impl_OfFrame.n2 b])) (expand a0 b0 (nums r)) := by
  have hb := hr b0 (by simp)
  have e1 : (((b0 :: r).drop 1).flatMap fun b => [impl_OfFrame.n1 b, impl_OfFrame.n2 b]) = nums r := flat_nums _ _ r (fun b hx => ⟨(byte_op b (hr b (by simp [hx]))).2.2.1, (byte_op b (hr b (by simp [hx]))).2.2.2⟩)
  have e2 : rd (b0 :: r) 0 = b0 := rfl
  rw [e1, e2, w64 (by omega)]
  exact expand_impl a0 b0 _

theorem coder_eq (a b : Int) : laws_eqCoder.f a b a b = some true := by simp [laws_eqCoder.f]
theorem FnExactOfFrame : SFnExactOfFrame.Pure := by
  intro a b0 b1 b2 b3 b4 b5 b6 b7 b8 b9 b10 b11 b12 b13 b14 b15 _ h0 h1 h2 h3 h4 h5 h6 h7 h8 h9 h10 h11 h12 h13 h14 h15
  have hr : ∀ b ∈ [b0, b1, b2, b3, b4, b5, b6, b7, b8, b9, b10, b11, b12, b13, b14, b15], 0 ≤ b ∧ b ≤ 255 := by
    intro b hb
    simp only [List.mem_cons, List.not_mem_nil, or_false] at hb
    rcases hb with rfl | rfl | rfl | rfl | rfl | rfl | rfl | rfl | rfl | rfl | rfl | rfl | rfl | rfl | rfl | rfl <;> exact byteW (by assumption)
  apply Ev.rounds
  have hS : Ev (fun k => spec_OfFrame.f k a b0 b1 b2 b3 b4 b5 b6 b7 b8 b9 b10 b11 b12 b13 b14 b15) (expand a b0 (nums [b1, b2, b3, b4, b5, b6, b7, b8, b9, b10, b11, b12, b13, b14, b15])) := ofS a b0 _ hr
  have hI : Ev (fun k => impl_OfFrame.f k a b0 b1 b2 b3 b4 b5 b6 b7 b8 b9 b10 b11 b12 b13 b14 b15) (expand a b0 (nums [b1, b2, b3, b4, b5, b6, b7, b8, b9, b10, b11, b12, b13, b14, b15])) := ofI a b0 _ hr
  have hl : ((expand a b0 (nums [b1, b2, b3, b4, b5, b6, b7, b8, b9, b10, b11, b12, b13, b14, b15])).1.length : Int) ≤ 1048576 := by have := expand_length a b0 (nums [b1, b2, b3, b4, b5, b6, b7, b8, b9, b10, b11, b12, b13, b14, b15]); omega
  have hQ := eq_ev _ hl
  generalize expand a b0 (nums [b1, b2, b3, b4, b5, b6, b7, b8, b9, b10, b11, b12, b13, b14, b15]) = R at hl hS hI hQ
  obtain ⟨x1, x2, x3, x4⟩ := R
  replace hl : (x1.length : Int) ≤ 1048576 := hl
  replace hQ : Ev (fun k => laws_eqIntS.f k x1 x1) true := hQ
  have n1 : ¬ 1 + (x1.length : Int) < 0 := by omega
  have hM := mark_ev x1 1 hl (by omega)
  have hH := held_ev x1 1 hl (by omega)
  have J1 : Ev (fun k => laws_FnExactOfFrame.j1 k (markL x1 1) (1 + (x1.length : Int)) false) true := by
    refine Ev.step (fun k => ?_) (Ev.bind (f := fun _ t => if t < 0 then some false else if t = 1 + (x1.length : Int) then some true else some false) hH ?_)
    · simp only [laws_FnExactOfFrame.j1, Bool.false_eq_true, if_false]
    · simp only [if_true, if_neg n1]
      exact Ev.now _
  simp only [laws_FnExactOfFrame.f, laws_toByteA16.f, Option.bind_some]
  refine Ev.bind hS ?_
  refine Ev.bind hI ?_
  refine Ev.bind hQ ?_
  simp only [if_true, coder_eq, Option.bind_some, bne_self_eq_false]
  refine Ev.step (g := fun k => laws_FnExactOfFrame.j0 k a x1 x4 x1 false b0 b1 b2 b3 b4 b5 b6 b7 b8 b9 b10 b11 b12 b13 b14 b15 x2 x3) (fun k => by simp only [laws_FnExactOfFrame.j0, Bool.false_eq_true, if_false, laws_toByteA16.f, Option.bind_some]; rfl) ?_
  refine Ev.bind hM ?_
  refine Ev.bind hH ?_
  simp only [if_neg n1, if_true]
  refine Ev.bind hI ?_
  refine Ev.bind hQ ?_
  simp only [if_true, coder_eq, Option.bind_some, bne_self_eq_false]
  exact J1

end Go.Proofs.Yteaelhdcmnhcbaa.Pure
