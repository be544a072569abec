/- FrameOf of the program and of the reference agree at every coder and every list, and leave the list as it was. No condition. -/
import Derived.Test.YteaelhdcmnhcbaaSFnExactFrameOf
set_option linter.unusedVariables false
set_option linter.unusedSimpArgs false
namespace Go.Proofs.Yteaelhdcmnhcbaa.Pure
open Go.RowKit Go.Proofs.Yteaelhdcmnhcbaa.PFnExactFrameOf Go.Proofs.Yteaelhdcmnhcbaa.SFnExactFrameOf Go.Proofs.YteaelhdcmnhcbaaW.PrintWords Go.Proofs.YteaelhdcmnhcbaaW.PrintLast Go.Proofs.YteaelhdcmnhcbaaW.PrintMore
theorem w64 {x : Int} (h : -9000000000000000000 ≤ x ∧ x ≤ 9000000000000000000) : wrap64 x = x := by unfold wrap64; omega
theorem rd_at (l : List Int) (i : Int) (h0 : 0 ≤ i) (h1 : i < l.length) : l[i.toNat]? = some (rd l i) := by
  simp [rd, List.getD_eq_getElem?_getD, List.getElem?_eq_getElem (show i.toNat < l.length by omega)]

theorem in_eq (x a b : Int) : impl_in.f x a b = some (decide (a ≤ x ∧ x ≤ b)) := by
  unfold impl_in.f
  by_cases h : x ≥ a
  · rw [if_pos h]; simp; intro _; exact h
  · rw [if_neg h]; simp; omega
theorem l1_eq (x a b : Int) : spec_l1In.f x a b = some (decide (a ≤ x ∧ x ≤ b)) := in_eq x a b
def stepV (n : Int) : Int := ((spec_StepSize.f 60 n).getD 0)
theorem steps : ∀ n : Fin 49, spec_StepSize.f 60 (n.val : Int) = some (stepV (n.val : Int)) ∧ impl_StepSize.f 60 (n.val : Int) = some (stepV (n.val : Int)) ∧ 7 ≤ stepV (n.val : Int) ∧ stepV (n.val : Int) ≤ 3000 := by decide +kernel
theorem step_at (n : Int) (h0 : 0 ≤ n) (h1 : n ≤ 48) : Ev (fun k => spec_StepSize.f k n) (stepV n) ∧ Ev (fun k => impl_StepSize.f k n) (stepV n) ∧ 7 ≤ stepV n ∧ stepV n ≤ 3000 := by
  have h := steps ⟨n.toNat, by omega⟩
  simp only [Int.toNat_of_nonneg h0] at h
  exact ⟨Ev.of (fun k => spec_StepSize.mono n k) h.1, Ev.of (fun k => impl_StepSize.mono n k) h.2.1, h.2.2⟩
/-- The coder behind a number. -/
def clipV (x : Int) : Int := if x > 32767 then 32767 else if x < -32767 then -32767 else x
def moveV (q : Int) : Int := if q < 4 then -1 else 2 * (q - 3)
def rise (s q : Int) : Int := s / 8 + (if q ≥ 4 then s else 0) + (if q % 4 ≥ 2 then s / 2 else 0) + (if q % 2 = 1 then s / 4 else 0)
def diffV (s n : Int) : Int := if n ≥ 8 then -(rise s (n % 8)) else rise s (n % 8)
def nextLast (last step n : Int) : Int := clipV (last + diffV (stepV step) n)
def nextStep (step n : Int) : Int := let t := step + moveV (n % 8); if t < 0 then 0 else if t > 48 then 48 else t
theorem rise_bound (s q : Int) (hs : 7 ≤ s ∧ s ≤ 3000) : 0 ≤ rise s q ∧ rise s q ≤ 6000 := by unfold rise; split <;> split <;> split <;> omega
theorem clip_bound (x : Int) : -32767 ≤ clipV x ∧ clipV x ≤ 32767 := by unfold clipV; split <;> (try split) <;> omega
theorem next_bound (last step n : Int) : (-32767 ≤ nextLast last step n ∧ nextLast last step n ≤ 32767) ∧ 0 ≤ nextStep step n ∧ nextStep step n ≤ 48 := by
  refine ⟨clip_bound _, ?_⟩
  unfold nextStep
  simp only []
  split
  · omega
  · split <;> omega

theorem Ev_shift {α : Type} {g f : Nat → Option α} {r : α} (c : Nat) (h : ∀ k, g (k + c) = f k) (k : Ev f r) : Ev g r := by
  obtain ⟨K, hK⟩ := k
  refine ⟨K + c, fun n hn => ?_⟩
  have := h (n - c)
  rw [Nat.sub_add_cancel (by omega)] at this
  rw [this]
  exact hK _ (by omega)
theorem clip_eq (x : Int) : spec_l2Clip.f x = some (clipV x) := by
  unfold spec_l2Clip.f clipV
  by_cases h1 : x > 32767
  · rw [if_pos h1, if_pos h1]
  · rw [if_neg h1, if_neg h1]
    by_cases h2 : x < -32767
    · rw [if_pos h2, if_pos h2]
    · rw [if_neg h2, if_neg h2]
theorem near_eq (x : Int) : impl_nearer.f x (-32767) 32767 = some (clipV x) := by
  unfold impl_nearer.f clipV mn mx
  congr 1
  split <;> split <;> (try split) <;> omega
def clamp48 (t : Int) : Int := if t < 0 then 0 else if t > 48 then 48 else t
theorem near48_eq (x : Int) : impl_nearer.f x 0 48 = some (clamp48 x) := by
  unfold impl_nearer.f clamp48 mn mx
  congr 1
  split <;> split <;> (try split) <;> omega
def spec3 (last d step m : Int) : Option (Int × Int) := some (clipV (wrap64 (last + d)), clamp48 (wrap64 (step + m)))
theorem j3_eq (k : Nat) (x6 d last step m : Int) (h0 : 0 ≤ x6) (h1 : x6 < 8) (hm : rd [(-1), (-1), (-1), (-1), 2, 4, 6, 8] x6 = m) : spec_l11Next.j3 (k + 1) x6 d last step = spec3 last d step m := by
  simp only [spec_l11Next.j3, Option.bind_some, List.length_cons, List.length_nil, hm, clip_eq]
  rw [if_pos h0, if_pos (by simpa using h1)]
  unfold spec3 clamp48
  by_cases c1 : wrap64 (step + m) < 0
  · simp [c1]
  · by_cases c2 : wrap64 (step + m) > 48
    · simp [c1, c2]
    · simp [c1, c2]
/-- What a number's bits add. -/
def addV (s n : Int) : Int :=
  let d := wrap64 (Int.tdiv s 8)
  let d := if n % 8 ≥ 4 then wrap64 (d + s) else d
  let d := if n % 4 ≥ 2 then wrap64 (d + wrap64 (Int.tdiv s 2)) else d
  let d := if n % 2 = 1 then wrap64 (d + wrap64 (Int.tdiv s 4)) else d
  if n ≥ 8 then wrap64 (-d) else d
theorem addV_eq (s n : Int) (hs : 7 ≤ s ∧ s ≤ 3000) : addV s n = diffV s n := by
  have e1 : wrap64 (Int.tdiv s 8) = s / 8 := by rw [Int.tdiv_eq_ediv_of_nonneg (by omega)]; exact w64 (by omega)
  have e2 : wrap64 (Int.tdiv s 2) = s / 2 := by rw [Int.tdiv_eq_ediv_of_nonneg (by omega)]; exact w64 (by omega)
  have e3 : wrap64 (Int.tdiv s 4) = s / 4 := by rw [Int.tdiv_eq_ediv_of_nonneg (by omega)]; exact w64 (by omega)
  unfold addV diffV rise
  simp only [e1, e2, e3]
  have a1 : n % 8 % 4 = n % 4 := by omega
  have a2 : n % 8 % 2 = n % 2 := by omega
  rw [a1, a2]
  by_cases c1 : n % 8 ≥ 4 <;> by_cases c2 : n % 4 ≥ 2 <;> by_cases c3 : n % 2 = 1 <;> by_cases c4 : n ≥ 8 <;> simp only [c1, c2, c3, c4, if_true, if_false] <;> (try unfold wrap64) <;> omega
theorem move_at : ∀ n : Fin 16, rd [(-1), (-1), (-1), (-1), 2, 4, 6, 8] ((n.val : Int) % 8) = moveV ((n.val : Int) % 8) := by decide +kernel
theorem moves (n : Int) (h0 : 0 ≤ n) (h1 : n ≤ 15) : rd [(-1), (-1), (-1), (-1), 2, 4, 6, 8] (n % 8) = moveV (n % 8) := by
  have h := move_at ⟨n.toNat, by omega⟩
  simpa only [Int.toNat_of_nonneg h0] using h
theorem next_spec_eq (k : Nat) (last step n : Int) (h0 : 0 ≤ n) (h1 : n ≤ 15) :
    spec_l11Next.f (k + 4) last step n = (spec_StepSize.f (k + 4) step).bind fun s => spec3 last (addV s n) step (moveV (n % 8)) := by
  have hm := moves n h0 h1
  have e8 : Int.tmod n 8 = n % 8 := Int.tmod_eq_emod_of_nonneg h0
  unfold spec_l11Next.f
  rw [e8]
  congr 1
  funext s
  have e4 : Int.tmod (n % 8) 4 = n % 4 := by rw [Int.tmod_eq_emod_of_nonneg (by omega)]; omega
  have e2 : Int.tmod (n % 8) 2 = n % 2 := by rw [Int.tmod_eq_emod_of_nonneg (by omega)]; omega
  have J3 : ∀ d, spec_l11Next.j2 (k + 2) n (n % 8) d last step = spec3 last (if n ≥ 8 then wrap64 (-d) else d) step (moveV (n % 8)) := by
    intro d
    simp only [spec_l11Next.j2]
    by_cases c : n ≥ 8
    · rw [if_pos c, if_pos c]; exact j3_eq k _ _ _ _ _ (by omega) (by omega) hm
    · rw [if_neg c, if_neg c]; exact j3_eq k _ _ _ _ _ (by omega) (by omega) hm
  unfold addV
  simp only []
  by_cases c1 : n % 8 ≥ 4 <;> by_cases c2 : n % 4 ≥ 2 <;> by_cases c3 : n % 2 = 1 <;> simp only [spec_l11Next.j0, spec_l11Next.j1, e4, e2, c1, c2, c3, if_true, if_false, J3]
theorem next_spec (last step n : Int) (hl : -32767 ≤ last ∧ last ≤ 32767) (hs : 0 ≤ step ∧ step ≤ 48) (h0 : 0 ≤ n) (h1 : n ≤ 15) : Ev (fun k => spec_l11Next.f k last step n) (nextLast last step n, nextStep step n) := by
  obtain ⟨hS, _, hb⟩ := step_at step hs.1 hs.2
  refine Ev_shift 4 (fun k => next_spec_eq k last step n h0 h1) (Ev.bind (f := fun _ s => spec3 last (addV s n) step (moveV (n % 8))) (a := stepV step) ?_ ?_)
  · obtain ⟨K, hK⟩ := hS
    exact ⟨K, fun k hk => hK _ (by omega)⟩
  · have hr := rise_bound (stepV step) (n % 8) hb
    have hd : -6000 ≤ diffV (stepV step) n ∧ diffV (stepV step) n ≤ 6000 := by unfold diffV; split <;> omega
    have hm : -1 ≤ moveV (n % 8) ∧ moveV (n % 8) ≤ 8 := by unfold moveV; split <;> omega
    have e : spec3 last (addV (stepV step) n) step (moveV (n % 8)) = some (nextLast last step n, nextStep step n) := by
      rw [addV_eq _ _ hb]
      unfold spec3 nextLast nextStep clamp48
      rw [w64 (by omega), w64 (by omega)]
    show Ev (fun _ => spec3 last (addV (stepV step) n) step (moveV (n % 8))) _
    rw [e]
    exact Ev.now _
theorem bits_at : ∀ n : Fin 16, Go.bits .and .i64 (n.val : Int) 7 = (n.val : Int) % 8 ∧ Go.bits .and .i64 ((n.val : Int) % 8) 4 = 4 * ((n.val : Int) % 8 / 4) ∧ Go.bits .and .i64 ((n.val : Int) % 8) 2 = 2 * ((n.val : Int) % 4 / 2) ∧ Go.bits .and .i64 ((n.val : Int) % 8) 1 = (n.val : Int) % 2 := by decide +kernel
theorem next_impl_eq (k : Nat) (last step n : Int) (h0 : 0 ≤ n) (h1 : n ≤ 15) :
    impl_Coder_expand.f (k + 4) last step n = (impl_StepSize.f (k + 4) step).bind fun s => spec3 last (addV s n) step (moveV (n % 8)) := by
  have hm := moves n h0 h1
  have hb := bits_at ⟨n.toNat, by omega⟩
  simp only [Int.toNat_of_nonneg h0] at hb
  obtain ⟨b7, b4, b2, b1⟩ := hb
  unfold impl_Coder_expand.f
  congr 1
  funext s
  rw [b7]
  have J2 : ∀ d, impl_Coder_expand.j2 (k + 2) n (n % 8) d last step = spec3 last (if n ≥ 8 then wrap64 (-d) else d) step (moveV (n % 8)) := by
    intro d
    have p1 : 0 ≤ n % 8 := by omega
    have p2 : n % 8 < 8 := by omega
    simp only [impl_Coder_expand.j2, near_eq, near48_eq, Option.bind_some, List.length_cons, List.length_nil, hm]
    unfold spec3
    by_cases c : n ≥ 8
    · rw [if_pos c, if_pos c, if_pos p1, if_pos (by simpa using p2)]
    · rw [if_neg c, if_neg c, if_pos p1, if_pos (by simpa using p2)]
  unfold addV
  simp only []
  by_cases c1 : n % 8 ≥ 4 <;> by_cases c2 : n % 4 ≥ 2 <;> by_cases c3 : n % 2 = 1 <;> simp only [impl_Coder_expand.j0, impl_Coder_expand.j1, b4, b2, b1, c1, c2, c3, if_true, if_false, J2] <;>
    (first | rw [if_pos (by omega)] | rw [if_neg (by omega)]) <;> (first | rw [if_pos (by omega)] | rw [if_neg (by omega)]) <;> (first | rw [if_pos (by omega)] | rw [if_neg (by omega)])
theorem next_impl (last step n : Int) (hl : -32767 ≤ last ∧ last ≤ 32767) (hs : 0 ≤ step ∧ step ≤ 48) (h0 : 0 ≤ n) (h1 : n ≤ 15) : Ev (fun k => impl_Coder_expand.f k last step n) (nextLast last step n, nextStep step n) := by
  obtain ⟨_, hS, hb⟩ := step_at step hs.1 hs.2
  refine Ev_shift 4 (fun k => next_impl_eq k last step n h0 h1) (Ev.bind (f := fun _ s => spec3 last (addV s n) step (moveV (n % 8))) (a := stepV step) ?_ ?_)
  · obtain ⟨K, hK⟩ := hS
    exact ⟨K, fun k hk => hK _ (by omega)⟩
  · have hr := rise_bound (stepV step) (n % 8) hb
    have hd : -6000 ≤ diffV (stepV step) n ∧ diffV (stepV step) n ≤ 6000 := by unfold diffV; split <;> omega
    have hm : -1 ≤ moveV (n % 8) ∧ moveV (n % 8) ≤ 8 := by unfold moveV; split <;> omega
    have e : spec3 last (addV (stepV step) n) step (moveV (n % 8)) = some (nextLast last step n, nextStep step n) := by
      rw [addV_eq _ _ hb]
      unfold spec3 nextLast nextStep clamp48
      rw [w64 (by omega), w64 (by omega)]
    show Ev (fun _ => spec3 last (addV (stepV step) n) step (moveV (n % 8))) _
    rw [e]
    exact Ev.now _

theorem to_loop (l : List Int) (hl : (l.length : Int) ≤ 1048576) (d : Nat) : ∀ (i : Int) (m : List Int), 0 ≤ i → i ≤ l.length → (l.length : Int) - i = d → m.length = l.length →
    (∀ j : Nat, (j : Int) < i → m[j]? = l[j]?) → Ev (fun k => laws_toIntS.l0 k l m i) l := by
  induction d with
  | zero =>
    intro i m h0 h1 hd hm hp
    refine Ev.step (f := fun _ => some l) (fun k => ?_) (Ev.now _)
    simp only [laws_toIntS.l0]
    rw [if_neg (by omega)]
    congr 1
    apply List.ext_getElem?
    intro j
    by_cases hj : j < l.length
    · exact hp j (by omega)
    · rw [List.getElem?_eq_none (by omega), List.getElem?_eq_none (by omega)]
  | succ d ih =>
    intro i m h0 h1 hd hm hp
    have ei : wrap64 (i + 1) = i + 1 := w64 (by omega)
    refine Ev.step (fun k => ?_) (ih (i + 1) (m.set i.toNat (rd l i)) (by omega) (by omega) (by omega) (by simpa using hm) ?_)
    · simp only [laws_toIntS.l0]
      rw [if_pos (by omega), if_pos h0, if_pos (by omega), ei]
    · intro j hj
      by_cases e : j = i.toNat
      · subst e
        rw [List.getElem?_set_self (by omega)]
        exact (rd_at l i h0 (by omega)).symm
      · rw [List.getElem?_set_ne (by omega)]
        exact hp j (by omega)
theorem to_ev (l : List Int) (hl : (l.length : Int) ≤ 1048576) : Ev (fun k => laws_toIntS.f k l) l := by
  refine Ev.congr (fun k => ?_) (to_loop l hl l.length 0 (List.replicate l.length 0) (by omega) (by omega) (by omega) (by simp) (fun j hj => by omega))
  unfold laws_toIntS.f
  rw [if_pos (by omega), if_pos (by omega)]
  rfl
theorem eq_loop (l : List Int) (hl : (l.length : Int) ≤ 1048576) (d : Nat) : ∀ (i : Int), 0 ≤ i → i ≤ l.length → (l.length : Int) - i = d → Ev (fun k => laws_eqIntS.l0 k l l i) true := by
  induction d with
  | zero =>
    intro i h0 h1 hd
    refine Ev.step (f := fun _ => some true) (fun k => ?_) (Ev.now _)
    simp only [laws_eqIntS.l0]
    rw [if_neg (by omega)]
  | succ d ih =>
    intro i h0 h1 hd
    have ei : wrap64 (i + 1) = i + 1 := w64 (by omega)
    have hlt : i < (l.length : Int) := by omega
    refine Ev.step (fun k => ?_) (ih (i + 1) (by omega) (by omega) (by omega))
    simp only [laws_eqIntS.l0, if_pos hlt, if_pos h0, ei, if_true]
theorem eq_ev (l : List Int) (hl : (l.length : Int) ≤ 1048576) : Ev (fun k => laws_eqIntS.f k l l) true := by
  refine Ev.congr (fun k => ?_) (eq_loop l hl l.length 0 (by omega) (by omega) (by omega))
  unfold laws_eqIntS.f
  rw [if_pos rfl]

theorem drop_cons (l : List Int) (i : Int) (h0 : 0 ≤ i) (x : Int) (r : List Int) (h : l.drop i.toNat = x :: r) : i < l.length ∧ rd l i = x ∧ l.drop (i + 1).toNat = r := by
  have hl : i.toNat < l.length := by
    by_cases c : i.toNat < l.length
    · exact c
    · rw [List.drop_eq_nil_of_le (by omega)] at h
      cases h
  refine ⟨by omega, ?_, ?_⟩
  · rw [List.drop_eq_getElem_cons hl] at h
    have h1 := (List.cons.inj h).1
    simp only [rd, List.getD_eq_getElem?_getD, List.getElem?_eq_getElem hl, Option.getD_some, h1]
  · rw [List.drop_eq_getElem_cons hl] at h
    have e : (i + 1).toNat = i.toNat + 1 := by omega
    rw [e]
    exact (List.cons.inj h).2
theorem drop_nil (l : List Int) (i : Int) (h0 : 0 ≤ i) (h : l.drop i.toNat = []) : ¬ i < (l.length : Int) := by
  have := List.drop_eq_nil_iff.1 h
  omega

theorem level_eq (x : Int) : spec_l2Level.f x = some (decide (-32767 ≤ x ∧ x ≤ 32767)) := by
  unfold spec_l2Level.f
  rw [l1_eq]
  rfl
def okC (last step : Int) : Bool := decide (-32767 ≤ last ∧ last ≤ 32767) && decide (0 ≤ step ∧ step ≤ 48)
theorem coder_spec (last step : Int) : spec_l11Coder.f last step = some (okC last step) := by
  unfold spec_l11Coder.f okC
  rw [level_eq]
  simp only [Option.bind_some, l1_eq]
  cases decide (-32767 ≤ last ∧ last ≤ 32767) <;> simp
theorem coder_impl (last step : Int) : impl_coderOk.f last step = some (okC last step) := by
  unfold impl_coderOk.f okC
  simp only [in_eq, Option.bind_some]
  cases decide (-32767 ≤ last ∧ last ≤ 32767) <;> simp
theorem okC_iff {last step : Int} (h : okC last step = true) : (-32767 ≤ last ∧ last ≤ 32767) ∧ (0 ≤ step ∧ step ≤ 48) := by simpa [okC] using h

theorem lev_loop_spec (l : List Int) (hl : (l.length : Int) ≤ 1048576) : ∀ (r : List Int) (i : Int), 0 ≤ i → l.drop i.toNat = r →
    Ev (fun k => spec_VoiceOk.l0 k l i) (r.all (fun x => decide (-32767 ≤ x ∧ x ≤ 32767)) && decide ((l.length : Int) ≤ 300))
  | [], i, h0, hd => by
    refine Ev.step (f := fun _ => some (decide ((l.length : Int) ≤ 300))) (fun k => ?_) (by simpa using Ev.now _)
    simp only [spec_VoiceOk.l0]
    rw [if_neg (drop_nil l i h0 hd)]
  | n :: r, i, h0, hd => by
    obtain ⟨hlt, hrd, hdr⟩ := drop_cons l i h0 n r hd
    have ei : wrap64 (i + 1) = i + 1 := w64 (by omega)
    by_cases c : -32767 ≤ n ∧ n ≤ 32767
    · have ih := lev_loop_spec l hl r (i + 1) (by omega) hdr
      rw [List.all_cons, decide_eq_true c, Bool.true_and]
      refine Ev.step (fun k => ?_) ih
      simp only [spec_VoiceOk.l0, if_pos hlt, if_pos h0, hrd, level_eq, Option.bind_some, decide_eq_true c, if_true, ei]
    · rw [List.all_cons, decide_eq_false c, Bool.false_and, Bool.false_and]
      refine Ev.step (f := fun _ => some false) (fun k => ?_) (Ev.now _)
      simp only [spec_VoiceOk.l0, if_pos hlt, if_pos h0, hrd, level_eq, Option.bind_some, decide_eq_false c, if_false, Bool.false_eq_true]
theorem lev_loop_impl (l : List Int) (hl : (l.length : Int) ≤ 1048576) : ∀ (r : List Int) (i : Int), 0 ≤ i → l.drop i.toNat = r →
    Ev (fun k => impl_levelsOk.l0 k l 300 l (l.length : Int) i) (r.all (fun x => decide (-32767 ≤ x ∧ x ≤ 32767)) && decide ((l.length : Int) ≤ 300))
  | [], i, h0, hd => by
    refine Ev.step (f := fun _ => some (decide ((l.length : Int) ≤ 300))) (fun k => ?_) (by simpa using Ev.now _)
    simp only [impl_levelsOk.l0]
    rw [if_neg (drop_nil l i h0 hd)]
  | n :: r, i, h0, hd => by
    obtain ⟨hlt, hrd, hdr⟩ := drop_cons l i h0 n r hd
    have ei : wrap64 (i + 1) = i + 1 := w64 (by omega)
    by_cases c : -32767 ≤ n ∧ n ≤ 32767
    · have ih := lev_loop_impl l hl r (i + 1) (by omega) hdr
      rw [List.all_cons, decide_eq_true c, Bool.true_and]
      refine Ev.step (fun k => ?_) ih
      simp only [impl_levelsOk.l0, if_pos hlt, if_pos h0, hrd, in_eq, Option.bind_some, decide_eq_true c, if_true, ei]
    · rw [List.all_cons, decide_eq_false c, Bool.false_and, Bool.false_and]
      refine Ev.step (f := fun _ => some false) (fun k => ?_) (Ev.now _)
      simp only [impl_levelsOk.l0, if_pos hlt, if_pos h0, hrd, in_eq, Option.bind_some, decide_eq_false c, if_false, Bool.false_eq_true]
def voiceOk (l : List Int) : Bool := l.all (fun x => decide (-32767 ≤ x ∧ x ≤ 32767)) && decide ((l.length : Int) ≤ 300)
theorem voice_spec (l : List Int) (hl : (l.length : Int) ≤ 1048576) : Ev (fun k => spec_VoiceOk.f k l) (voiceOk l) := lev_loop_spec l hl l 0 (by omega) rfl
theorem voice_impl (l : List Int) (hl : (l.length : Int) ≤ 1048576) : Ev (fun k => impl_VoiceOk.f k l) (voiceOk l) := by
  have h := lev_loop_impl l hl l 0 (by omega) rfl
  refine Ev.bind (g := fun k => impl_levelsOk.f k l 300) (f := fun _ t => some t) h (Ev.now _)
theorem voiceOk_iff {l : List Int} (h : voiceOk l = true) : (∀ x ∈ l, -32767 ≤ x ∧ x ≤ 32767) ∧ l.length ≤ 300 := by
  simp only [voiceOk, Bool.and_eq_true, List.all_eq_true, decide_eq_true_eq] at h
  exact ⟨h.1, by omega⟩
/-- The number that a difference is squeezed to. -/
def absV (x : Int) : Int := if x < 0 then -x else x
def numV (s d : Int) : Int := let b := 4 * absV d / s; let b := if b > 7 then 7 else b; if d < 0 then b + 8 else b
theorem numV_bound (s d : Int) (hs : 7 ≤ s) : 0 ≤ numV s d ∧ numV s d ≤ 15 := by
  have h : 0 ≤ 4 * absV d / s := Int.ediv_nonneg (by unfold absV; split <;> omega) (by omega)
  unfold numV
  simp only []
  generalize 4 * absV d / s = b at h
  split <;> split <;> omega
def sqL : List Int → Int → Int → List Int → (List Int × Int × Int × Bool)
  | [], last, step, acc => (acc, last, step, true)
  | x :: r, last, step, acc => sqL r (nextLast last step (numV (stepV step) (x - last))) (nextStep step (numV (stepV step) (x - last))) (acc ++ [numV (stepV step) (x - last)])
theorem sqL_length : ∀ (r : List Int) (last step : Int) (acc : List Int), (sqL r last step acc).1.length = acc.length + r.length
  | [], last, step, acc => by simp [sqL]
  | n :: r, last, step, acc => by
    unfold sqL
    rw [sqL_length r]
    simp only [List.length_append, List.length_cons, List.length_nil]
    omega
theorem size_spec (x : Int) (h : -100000 ≤ x ∧ x ≤ 100000) : spec_l11Size.f x = some (absV x) := by
  unfold spec_l11Size.f absV
  have e : wrap64 (-x) = -x := w64 (by omega)
  rw [e]
  split <;> rfl
theorem size_impl (x : Int) (h : -100000 ≤ x ∧ x ≤ 100000) : impl_size.f x = some (absV x) := by
  unfold impl_size.f absV mx
  have e : wrap64 (-x) = -x := w64 (by omega)
  rw [e]
  congr 1
  split <;> split <;> omega
theorem sq_spec (l : List Int) (hl : l.length ≤ 300) (hx : ∀ x ∈ l, -32767 ≤ x ∧ x ≤ 32767) : ∀ (r : List Int) (i : Int) (last step : Int) (acc : List Int), 0 ≤ i → l.drop i.toNat = r → (-32767 ≤ last ∧ last ≤ 32767) → (0 ≤ step ∧ step ≤ 48) → acc.length ≤ 300 + i.toNat →
    Ev (fun k => spec_Squeeze.l0 k l acc i last step) (sqL r last step acc)
  | [], i, last, step, acc, h0, hd, h1, h2, ha => by
    refine Ev.step (f := fun _ => some (acc, last, step, true)) (fun k => ?_) (Ev.now _)
    simp only [spec_Squeeze.l0]
    rw [if_neg (drop_nil l i h0 hd)]
  | n :: r, i, last, step, acc, h0, hd, h1, h2, ha => by
    obtain ⟨hlt, hrd, hdr⟩ := drop_cons l i h0 n r hd
    have ei : wrap64 (i + 1) = i + 1 := w64 (by omega)
    have ha2 : acc.length < 17592186044416 := by omega
    have hn : -32767 ≤ n ∧ n ≤ 32767 := hx n (List.mem_of_mem_drop (hd ▸ List.mem_cons_self))
    obtain ⟨hS, _, hb⟩ := step_at step h2.1 h2.2
    have hq := numV_bound (stepV step) (n - last) hb.1
    have hv : 0 ≤ absV (n - last) ∧ absV (n - last) ≤ 65534 := by unfold absV; split <;> omega
    have ed : wrap64 (n - last) = n - last := w64 (by omega)
    have e4 : wrap64 (4 * absV (n - last)) = 4 * absV (n - last) := w64 (by omega)
    have hdv : 0 ≤ 4 * absV (n - last) / stepV step ∧ 4 * absV (n - last) / stepV step ≤ 262136 := ⟨Int.ediv_nonneg (by omega) (by omega), Int.le_trans (Int.ediv_le_self _ (by omega)) (by omega)⟩
    have eq : wrap64 (Int.tdiv (4 * absV (n - last)) (stepV step)) = 4 * absV (n - last) / stepV step := by
      rw [Int.tdiv_eq_ediv_of_nonneg (by omega)]
      exact w64 (by omega)
    have hs0 : ¬ stepV step = 0 := by omega
    have hN := next_spec last step (numV (stepV step) (n - last)) h1 h2 hq.1 hq.2
    have hbd := next_bound last step (numV (stepV step) (n - last))
    have ih := sq_spec l hl hx r (i + 1) (nextLast last step (numV (stepV step) (n - last))) (nextStep step (numV (stepV step) (n - last))) (acc ++ [numV (stepV step) (n - last)]) (by omega) hdr hbd.1 hbd.2 (by simp; omega)
    unfold sqL
    have key := Ev.bind (f := fun k (bt : Int × Int) => spec_Squeeze.l0 k l (acc ++ [numV (stepV step) (n - last)]) (i + 1) bt.1 bt.2) hN ih
    refine Ev.step (g := fun k => spec_Squeeze.l0 k l acc i last step) (fun k => by simp only [spec_Squeeze.l0, if_pos hlt, if_pos h0, hrd, ed, size_spec (n - last) (by omega), Option.bind_some, e4]; rfl) ?_
    refine Ev.bind hS ?_
    simp only [if_neg hs0, eq, if_pos ha2, ei]
    refine Ev.congr (fun k => ?_) key
    generalize hD : 4 * absV (n - last) / stepV step = D at hdv
    have e8 : wrap64 (D + 8) = D + 8 := w64 (by omega)
    have hnum : numV (stepV step) (n - last) = if n - last < 0 then (if D > 7 then 7 else D) + 8 else (if D > 7 then 7 else D) := by unfold numV; simp only [hD]
    by_cases c1 : D > 7 <;> by_cases c2 : n - last < 0 <;> simp only [hnum, c1, c2, if_true, if_false, e8] <;> rfl
theorem sq_impl (l : List Int) (hl : l.length ≤ 300) (hx : ∀ x ∈ l, -32767 ≤ x ∧ x ≤ 32767) : ∀ (r : List Int) (i : Int) (last step : Int) (acc : List Int), 0 ≤ i → l.drop i.toNat = r → (-32767 ≤ last ∧ last ≤ 32767) → (0 ≤ step ∧ step ≤ 48) → acc.length ≤ 300 + i.toNat →
    Ev (fun k => impl_Squeeze.l0 k acc l (l.length : Int) i last step) (sqL r last step acc)
  | [], i, last, step, acc, h0, hd, h1, h2, ha => by
    refine Ev.step (f := fun _ => some (acc, last, step, true)) (fun k => ?_) (Ev.now _)
    simp only [impl_Squeeze.l0]
    rw [if_neg (drop_nil l i h0 hd)]
  | n :: r, i, last, step, acc, h0, hd, h1, h2, ha => by
    obtain ⟨hlt, hrd, hdr⟩ := drop_cons l i h0 n r hd
    have ei : wrap64 (i + 1) = i + 1 := w64 (by omega)
    have ha2 : acc.length < 17592186044416 := by omega
    have hn : -32767 ≤ n ∧ n ≤ 32767 := hx n (List.mem_of_mem_drop (hd ▸ List.mem_cons_self))
    obtain ⟨_, hS, hb⟩ := step_at step h2.1 h2.2
    have hq := numV_bound (stepV step) (n - last) hb.1
    have hv : 0 ≤ absV (n - last) ∧ absV (n - last) ≤ 65534 := by unfold absV; split <;> omega
    have ed : wrap64 (n - last) = n - last := w64 (by omega)
    have e4 : wrap64 (4 * absV (n - last)) = 4 * absV (n - last) := w64 (by omega)
    have hdv : 0 ≤ 4 * absV (n - last) / stepV step ∧ 4 * absV (n - last) / stepV step ≤ 262136 := ⟨Int.ediv_nonneg (by omega) (by omega), Int.le_trans (Int.ediv_le_self _ (by omega)) (by omega)⟩
    have eq : wrap64 (Int.tdiv (4 * absV (n - last)) (stepV step)) = 4 * absV (n - last) / stepV step := by
      rw [Int.tdiv_eq_ediv_of_nonneg (by omega)]
      exact w64 (by omega)
    have hs0 : ¬ stepV step = 0 := by omega
    have hN := next_impl last step (numV (stepV step) (n - last)) h1 h2 hq.1 hq.2
    have hbd := next_bound last step (numV (stepV step) (n - last))
    have ih := sq_impl l hl hx r (i + 1) (nextLast last step (numV (stepV step) (n - last))) (nextStep step (numV (stepV step) (n - last))) (acc ++ [numV (stepV step) (n - last)]) (by omega) hdr hbd.1 hbd.2 (by simp; omega)
    unfold sqL
    have key := Ev.bind (f := fun k (bt : Int × Int) => impl_Squeeze.l0 k (acc ++ [numV (stepV step) (n - last)]) l (l.length : Int) (i + 1) bt.1 bt.2) hN ih
    refine Ev.step (g := fun k => impl_Squeeze.l0 k acc l (l.length : Int) i last step) (fun k => by simp only [impl_Squeeze.l0, if_pos hlt, if_pos h0, hrd, ed, size_impl (n - last) (by omega), Option.bind_some, e4]; rfl) ?_
    refine Ev.bind hS ?_
    simp only [if_neg hs0, eq, if_pos ha2, ei]
    refine Ev.congr (fun k => ?_) key
    generalize hD : 4 * absV (n - last) / stepV step = D at hdv
    have em : mn 7 D = if D > 7 then 7 else D := by unfold mn; split <;> split <;> omega
    have e8 : wrap64 ((if D > 7 then 7 else D) + 8) = (if D > 7 then 7 else D) + 8 := w64 (by split <;> omega)
    have hnum : numV (stepV step) (n - last) = if n - last < 0 then (if D > 7 then 7 else D) + 8 else (if D > 7 then 7 else D) := by unfold numV; simp only [hD]
    by_cases c2 : n - last < 0 <;> simp only [hnum, em, c2, if_true, if_false, e8] <;> rfl
def squeeze (last step : Int) (l : List Int) : List Int × Int × Int × Bool := if okC last step = true ∧ voiceOk l = true then sqL l last step [] else ([], 0, 0, false)
theorem squeeze_length (last step : Int) (l : List Int) : (squeeze last step l).1.length ≤ 300 := by
  unfold squeeze
  split
  · rename_i h
    have h2 := (voiceOk_iff h.2).2
    rw [sqL_length]
    simpa using h2
  · simp
theorem squeeze_spec (last step : Int) (l : List Int) (hl : (l.length : Int) ≤ 1048576) : Ev (fun k => spec_Squeeze.f k last step l) (squeeze last step l) := by
  simp only [spec_Squeeze.f, coder_spec, Option.bind_some]
  unfold squeeze
  by_cases c : okC last step = true
  · simp only [if_pos c, c, true_and]
    refine Ev.bind (voice_spec l hl) ?_
    by_cases d : voiceOk l = true
    · rw [if_pos d, d]
      have hv := voiceOk_iff d
      refine Ev.step (fun k => ?_) (sq_spec l hv.2 hv.1 l 0 last step [] (by omega) rfl (okC_iff c).1 (okC_iff c).2 (by simp))
      simp only [spec_Squeeze.j0, Bool.not_true, Bool.false_eq_true, if_false]
    · rw [if_neg d, Bool.eq_false_iff.2 d]
      refine Ev.step (f := fun _ => some ([], 0, 0, false)) (fun k => ?_) (Ev.now _)
      simp only [spec_Squeeze.j0, Bool.not_false, if_true]
  · simp only [if_neg c]
    rw [if_neg (by simp [c])]
    refine Ev.step (f := fun _ => some ([], 0, 0, false)) (fun k => ?_) (Ev.now _)
    simp only [spec_Squeeze.j0, if_true]
theorem squeeze_impl (last step : Int) (l : List Int) (hl : (l.length : Int) ≤ 1048576) : Ev (fun k => impl_Squeeze.f k last step l) (squeeze last step l) := by
  simp only [impl_Squeeze.f, coder_impl, Option.bind_some]
  unfold squeeze
  by_cases c : okC last step = true
  · simp only [if_pos c, c, true_and]
    refine Ev.bind (voice_impl l hl) ?_
    by_cases d : voiceOk l = true
    · rw [if_pos d, d]
      have hv := voiceOk_iff d
      refine Ev.step (fun k => ?_) (sq_impl l hv.2 hv.1 l 0 last step [] (by omega) rfl (okC_iff c).1 (okC_iff c).2 (by simp))
      simp only [impl_Squeeze.j0, Bool.not_true, Bool.false_eq_true, if_false]
    · rw [if_neg d, Bool.eq_false_iff.2 d]
      refine Ev.step (f := fun _ => some ([], 0, 0, false)) (fun k => ?_) (Ev.now _)
      simp only [impl_Squeeze.j0, Bool.not_false, if_true]
  · simp only [if_neg c]
    rw [if_neg (by simp [c])]
    refine Ev.step (f := fun _ => some ([], 0, 0, false)) (fun k => ?_) (Ev.now _)
    simp only [impl_Squeeze.j0, if_true]

theorem sqL_ok : ∀ (r : List Int) (last step : Int) (acc : List Int), (sqL r last step acc).2.2.2 = true
  | [], _, _, _ => rfl
  | x :: r, last, step, acc => by
    unfold sqL
    exact sqL_ok r _ _ _
/-- The frame of a list of levels, its coder behind it, and whether it was right. -/
def frameV (a b : Int) (l : List Int) : Int × Int × Int × Int × Int × Int × Int × Int × Int × Int × Int × Int × Int × Int × Int × Int × Int × Int × Bool := if okC a b = true ∧ voiceOk l = true ∧ l.length = 30 then (impl_FrameOf.b0 b, impl_FrameOf.bt (squeeze a b l).1 0, impl_FrameOf.bt (squeeze a b l).1 1, impl_FrameOf.bt (squeeze a b l).1 2, impl_FrameOf.bt (squeeze a b l).1 3, impl_FrameOf.bt (squeeze a b l).1 4, impl_FrameOf.bt (squeeze a b l).1 5, impl_FrameOf.bt (squeeze a b l).1 6, impl_FrameOf.bt (squeeze a b l).1 7, impl_FrameOf.bt (squeeze a b l).1 8, impl_FrameOf.bt (squeeze a b l).1 9, impl_FrameOf.bt (squeeze a b l).1 10, impl_FrameOf.bt (squeeze a b l).1 11, impl_FrameOf.bt (squeeze a b l).1 12, impl_FrameOf.bt (squeeze a b l).1 13, impl_FrameOf.bt (squeeze a b l).1 14, (squeeze a b l).2.1, (squeeze a b l).2.2.1, true) else (0, 0, 0, 0, 0, 0, 0, 0, 0, 0, 0, 0, 0, 0, 0, 0, 0, 0, false)
theorem sq_len (a b : Int) (l : List Int) (h1 : okC a b = true) (h2 : voiceOk l = true) : (squeeze a b l).1.length = l.length ∧ (squeeze a b l).2.2.2 = true := by
  unfold squeeze
  rw [if_pos ⟨h1, h2⟩]
  exact ⟨by rw [sqL_length]; simp, sqL_ok l a b []⟩
theorem frame_spec (a b : Int) (l : List Int) (hl : (l.length : Int) ≤ 1048576) : Ev (fun k => spec_FrameOf.f k a b l) (frameV a b l) := by
  have e : ∀ k, spec_FrameOf.f k a b l = if okC a b = true then ((spec_VoiceOk.f k l).bind fun v => if v = true ∧ l.length = 30 then ((spec_Squeeze.f k a b l).bind fun bt => if 30 ≤ bt.1.length then some (spec_FrameOf.b0 b, spec_FrameOf.bt bt.1 0, spec_FrameOf.bt bt.1 1, spec_FrameOf.bt bt.1 2, spec_FrameOf.bt bt.1 3, spec_FrameOf.bt bt.1 4, spec_FrameOf.bt bt.1 5, spec_FrameOf.bt bt.1 6, spec_FrameOf.bt bt.1 7, spec_FrameOf.bt bt.1 8, spec_FrameOf.bt bt.1 9, spec_FrameOf.bt bt.1 10, spec_FrameOf.bt bt.1 11, spec_FrameOf.bt bt.1 12, spec_FrameOf.bt bt.1 13, spec_FrameOf.bt bt.1 14, bt.2.1, bt.2.2.1, true) else none) else some (0, 0, 0, 0, 0, 0, 0, 0, 0, 0, 0, 0, 0, 0, 0, 0, 0, 0, false)) else some (0, 0, 0, 0, 0, 0, 0, 0, 0, 0, 0, 0, 0, 0, 0, 0, 0, 0, false) := by
    intro k
    unfold spec_FrameOf.f
    rw [coder_spec]
    rfl
  refine Ev.congr e ?_
  unfold frameV
  by_cases c : okC a b = true
  · simp only [if_pos c, c, true_and]
    refine Ev.bind (voice_spec l hl) ?_
    by_cases d : voiceOk l = true ∧ l.length = 30
    · have hq := sq_len a b l c d.1
      have hn : 30 ≤ (squeeze a b l).1.length := by omega
      simp only [if_pos d]
      refine Ev.bind (squeeze_spec a b l hl) ?_
      simp only [if_pos hn]
      exact Ev.now _
    · simp only [if_neg d]
      exact Ev.now _
  · simp only [if_neg c]
    rw [if_neg (fun h => c h.1)]
    exact Ev.now _
theorem frame_impl (a b : Int) (l : List Int) (hl : (l.length : Int) ≤ 1048576) : Ev (fun k => impl_FrameOf.f k a b l) (frameV a b l) := by
  refine Ev.congr (g := fun k => impl_FrameOf.f k a b l) (f := fun k => (impl_Squeeze.f k a b l).bind fun bt => if bt.2.2.2 = true ∧ l.length = 30 then (if 30 ≤ bt.1.length then some (impl_FrameOf.b0 b, impl_FrameOf.bt bt.1 0, impl_FrameOf.bt bt.1 1, impl_FrameOf.bt bt.1 2, impl_FrameOf.bt bt.1 3, impl_FrameOf.bt bt.1 4, impl_FrameOf.bt bt.1 5, impl_FrameOf.bt bt.1 6, impl_FrameOf.bt bt.1 7, impl_FrameOf.bt bt.1 8, impl_FrameOf.bt bt.1 9, impl_FrameOf.bt bt.1 10, impl_FrameOf.bt bt.1 11, impl_FrameOf.bt bt.1 12, impl_FrameOf.bt bt.1 13, impl_FrameOf.bt bt.1 14, bt.2.1, bt.2.2.1, true) else none) else some (0, 0, 0, 0, 0, 0, 0, 0, 0, 0, 0, 0, 0, 0, 0, 0, 0, 0, false)) (fun k => by unfold impl_FrameOf.f; rfl) ?_
  refine Ev.bind (squeeze_impl a b l hl) ?_
  unfold frameV
  by_cases c : okC a b = true ∧ voiceOk l = true
  · have hq := sq_len a b l c.1 c.2
    by_cases d : l.length = 30
    · have hn : 30 ≤ (squeeze a b l).1.length := by omega
      simp only [hq.2, c.1, c.2, d, if_true, and_self, if_pos hn]
      exact Ev.now _
    · simp only [d, and_false, if_false]
      exact Ev.now _
  · have h4 : (squeeze a b l).2.2.2 = false := by unfold squeeze; rw [if_neg c]
    have c2 : ¬ (okC a b = true ∧ voiceOk l = true ∧ l.length = 30) := fun h => c ⟨h.1, h.2.1⟩
    simp only [h4, if_neg c2, Bool.false_eq_true, false_and, if_false]
    exact Ev.now _

theorem coder_eq (a b : Int) : laws_eqCoder.f a b a b = some true := by simp [laws_eqCoder.f]
theorem FnExactFrameOf : SFnExactFrameOf.Pure := by
  intro a b l _ _ _
  apply Ev.rounds
  by_cases h : (l.length : Int) > 1048576
  · refine Ev.congr (f := fun _ => some true) (fun k => ?_) (Ev.now _)
    unfold laws_FnExactFrameOf.f
    rw [if_pos h]
  · have hl : (l.length : Int) ≤ 1048576 := by omega
    have hT := to_ev l hl
    have hS := frame_spec a b l hl
    have hI := frame_impl a b l hl
    have hQl := eq_ev l hl
    generalize frameV a b l = R at hS hI
    obtain ⟨x0, x1, x2, x3, x4, x5, x6, x7, x8, x9, x10, x11, x12, x13, x14, x15, x16, x17, x18⟩ := R
    have J0 : Ev (fun k => laws_FnExactFrameOf.j0 k l l false) true := by
      refine Ev.step (g := fun k => laws_FnExactFrameOf.j0 k l l false) (fun k => by simp only [laws_FnExactFrameOf.j0, Bool.false_eq_true, if_false]; rfl) ?_
      refine Ev.bind hT ?_
      refine Ev.bind hQl ?_
      simp only [if_true]
      exact Ev.now _
    simp only [laws_FnExactFrameOf.f, if_neg h, laws_toCoder.f, Option.bind_some]
    refine Ev.bind hT ?_
    refine Ev.bind hS ?_
    refine Ev.bind hT ?_
    refine Ev.bind hI ?_
    simp only [laws_eqByteA16.f, decide_true, if_true, coder_eq, Option.bind_some, bne_self_eq_false]
    exact J0

end Go.Proofs.Yteaelhdcmnhcbaa.Pure
