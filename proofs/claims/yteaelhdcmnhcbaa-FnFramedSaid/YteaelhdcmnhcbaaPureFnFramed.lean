/- A frame of drawn levels brings back, by OfFrame, what Expand of Squeeze brings, and begins with its coder's Step; what is no frame is told as an empty one. No condition. -/
import Derived.Test.YteaelhdcmnhcbaaSFnFramed
set_option linter.unusedVariables false
set_option linter.unusedSimpArgs false
namespace Go.Proofs.Yteaelhdcmnhcbaa.Pure
open Go.RowKit Go.Proofs.Yteaelhdcmnhcbaa.PFnFramed Go.Proofs.Yteaelhdcmnhcbaa.SFnFramed Go.Proofs.YteaelhdcmnhcbaaW.PrintWords Go.Proofs.YteaelhdcmnhcbaaW.PrintLast Go.Proofs.YteaelhdcmnhcbaaW.PrintMore
theorem w64 {x : Int} (h : -9000000000000000000 ≤ x ∧ x ≤ 9000000000000000000) : wrap64 x = x := by unfold wrap64; omega
theorem rd_at (l : List Int) (i : Int) (h0 : 0 ≤ i) (h1 : i < l.length) : l[i.toNat]? = some (rd l i) := by
  simp [rd, List.getD_eq_getElem?_getD, List.getElem?_eq_getElem (show i.toNat < l.length by omega)]

theorem in_eq (x a b : Int) : impl_in.f x a b = some (decide (a ≤ x ∧ x ≤ b)) := by
  unfold impl_in.f
  by_cases h : x ≥ a
  · rw [if_pos h]; simp; intro _; exact h
  · rw [if_neg h]; simp; omega
theorem l1_eq (x a b : Int) : spec_l1In.f x a b = some (decide (a ≤ x ∧ x ≤ b)) := in_eq x a b
def stepV (n : Int) : Int := ((spec_StepSize.f 60 n).getD 0)
theorem steps : ∀ n : Fin 49, spec_StepSize.f 60 (n.val : Int) = some (stepV (n.val : Int)) ∧ impl_StepSize.f 60 (n.val : Int) = some (stepV (n.val : Int)) ∧ 7 ≤ stepV (n.val : Int) ∧ stepV (n.val : Int) ≤ 3000 := by decide +kernel
theorem step_at (n : Int) (h0 : 0 ≤ n) (h1 : n ≤ 48) : Ev (fun k => spec_StepSize.f k n) (stepV n) ∧ Ev (fun k => impl_StepSize.f k n) (stepV n) ∧ 7 ≤ stepV n ∧ stepV n ≤ 3000 := by
  have h := steps ⟨n.toNat, by omega⟩
  simp only [Int.toNat_of_nonneg h0] at h
  exact ⟨Ev.of (fun k => spec_StepSize.mono n k) h.1, Ev.of (fun k => impl_StepSize.mono n k) h.2.1, h.2.2⟩
/-- The coder behind a number. -/
def clipV (x : Int) : Int := if x > 32767 then 32767 else if x < -32767 then -32767 else x
def moveV (q : Int) : Int := if q < 4 then -1 else 2 * (q - 3)
def rise (s q : Int) : Int := s / 8 + (if q ≥ 4 then s else 0) + (if q % 4 ≥ 2 then s / 2 else 0) + (if q % 2 = 1 then s / 4 else 0)
def diffV (s n : Int) : Int := if n ≥ 8 then -(rise s (n % 8)) else rise s (n % 8)
def nextLast (last step n : Int) : Int := clipV (last + diffV (stepV step) n)
def nextStep (step n : Int) : Int := let t := step + moveV (n % 8); if t < 0 then 0 else if t > 48 then 48 else t
theorem rise_bound (s q : Int) (hs : 7 ≤ s ∧ s ≤ 3000) : 0 ≤ rise s q ∧ rise s q ≤ 6000 := by unfold rise; split <;> split <;> split <;> omega
theorem clip_bound (x : Int) : -32767 ≤ clipV x ∧ clipV x ≤ 32767 := by unfold clipV; split <;> (try split) <;> omega
theorem next_bound (last step n : Int) : (-32767 ≤ nextLast last step n ∧ nextLast last step n ≤ 32767) ∧ 0 ≤ nextStep step n ∧ nextStep step n ≤ 48 := by
  refine ⟨clip_bound _, ?_⟩
  unfold nextStep
  simp only []
  split
  · omega
  · split <;> omega

theorem Ev_shift {α : Type} {g f : Nat → Option α} {r : α} (c : Nat) (h : ∀ k, g (k + c) = f k) (k : Ev f r) : Ev g r := by
  obtain ⟨K, hK⟩ := k
  refine ⟨K + c, fun n hn => ?_⟩
  have := h (n - c)
  rw [Nat.sub_add_cancel (by omega)] at this
  rw [this]
  exact hK _ (by omega)
theorem clip_eq (x : Int) : spec_l2Clip.f x = some (clipV x) := by
  unfold spec_l2Clip.f clipV
  by_cases h1 : x > 32767
  · rw [if_pos h1, if_pos h1]
  · rw [if_neg h1, if_neg h1]
    by_cases h2 : x < -32767
    · rw [if_pos h2, if_pos h2]
    · rw [if_neg h2, if_neg h2]
theorem near_eq (x : Int) : impl_nearer.f x (-32767) 32767 = some (clipV x) := by
  unfold impl_nearer.f clipV mn mx
  congr 1
  split <;> split <;> (try split) <;> omega
def clamp48 (t : Int) : Int := if t < 0 then 0 else if t > 48 then 48 else t
theorem near48_eq (x : Int) : impl_nearer.f x 0 48 = some (clamp48 x) := by
  unfold impl_nearer.f clamp48 mn mx
  congr 1
  split <;> split <;> (try split) <;> omega
def spec3 (last d step m : Int) : Option (Int × Int) := some (clipV (wrap64 (last + d)), clamp48 (wrap64 (step + m)))
theorem j3_eq (k : Nat) (x6 d last step m : Int) (h0 : 0 ≤ x6) (h1 : x6 < 8) (hm : rd [(-1), (-1), (-1), (-1), 2, 4, 6, 8] x6 = m) : spec_l11Next.j3 (k + 1) x6 d last step = spec3 last d step m := by
  simp only [spec_l11Next.j3, Option.bind_some, List.length_cons, List.length_nil, hm, clip_eq]
  rw [if_pos h0, if_pos (by simpa using h1)]
  unfold spec3 clamp48
  by_cases c1 : wrap64 (step + m) < 0
  · simp [c1]
  · by_cases c2 : wrap64 (step + m) > 48
    · simp [c1, c2]
    · simp [c1, c2]
/-- What a number's bits add. -/
def addV (s n : Int) : Int :=
  let d := wrap64 (Int.tdiv s 8)
  let d := if n % 8 ≥ 4 then wrap64 (d + s) else d
  let d := if n % 4 ≥ 2 then wrap64 (d + wrap64 (Int.tdiv s 2)) else d
  let d := if n % 2 = 1 then wrap64 (d + wrap64 (Int.tdiv s 4)) else d
  if n ≥ 8 then wrap64 (-d) else d
theorem addV_eq (s n : Int) (hs : 7 ≤ s ∧ s ≤ 3000) : addV s n = diffV s n := by
  have e1 : wrap64 (Int.tdiv s 8) = s / 8 := by rw [Int.tdiv_eq_ediv_of_nonneg (by omega)]; exact w64 (by omega)
  have e2 : wrap64 (Int.tdiv s 2) = s / 2 := by rw [Int.tdiv_eq_ediv_of_nonneg (by omega)]; exact w64 (by omega)
  have e3 : wrap64 (Int.tdiv s 4) = s / 4 := by rw [Int.tdiv_eq_ediv_of_nonneg (by omega)]; exact w64 (by omega)
  unfold addV diffV rise
  simp only [e1, e2, e3]
  have a1 : n % 8 % 4 = n % 4 := by omega
  have a2 : n % 8 % 2 = n % 2 := by omega
  rw [a1, a2]
  by_cases c1 : n % 8 ≥ 4 <;> by_cases c2 : n % 4 ≥ 2 <;> by_cases c3 : n % 2 = 1 <;> by_cases c4 : n ≥ 8 <;> simp only [c1, c2, c3, c4, if_true, if_false] <;> (try unfold wrap64) <;> omega
theorem move_at : ∀ n : Fin 16, rd [(-1), (-1), (-1), (-1), 2, 4, 6, 8] ((n.val : Int) % 8) = moveV ((n.val : Int) % 8) := by decide +kernel
theorem moves (n : Int) (h0 : 0 ≤ n) (h1 : n ≤ 15) : rd [(-1), (-1), (-1), (-1), 2, 4, 6, 8] (n % 8) = moveV (n % 8) := by
  have h := move_at ⟨n.toNat, by omega⟩
  simpa only [Int.toNat_of_nonneg h0] using h
theorem next_spec_eq (k : Nat) (last step n : Int) (h0 : 0 ≤ n) (h1 : n ≤ 15) :
    spec_l11Next.f (k + 4) last step n = (spec_StepSize.f (k + 4) step).bind fun s => spec3 last (addV s n) step (moveV (n % 8)) := by
  have hm := moves n h0 h1
  have e8 : Int.tmod n 8 = n % 8 := Int.tmod_eq_emod_of_nonneg h0
  unfold spec_l11Next.f
  rw [e8]
  congr 1
  funext s
  have e4 : Int.tmod (n % 8) 4 = n % 4 := by rw [Int.tmod_eq_emod_of_nonneg (by omega)]; omega
  have e2 : Int.tmod (n % 8) 2 = n % 2 := by rw [Int.tmod_eq_emod_of_nonneg (by omega)]; omega
  have J3 : ∀ d, spec_l11Next.j2 (k + 2) n (n % 8) d last step = spec3 last (if n ≥ 8 then wrap64 (-d) else d) step (moveV (n % 8)) := by
    intro d
    simp only [spec_l11Next.j2]
    by_cases c : n ≥ 8
    · rw [if_pos c, if_pos c]; exact j3_eq k _ _ _ _ _ (by omega) (by omega) hm
    · rw [if_neg c, if_neg c]; exact j3_eq k _ _ _ _ _ (by omega) (by omega) hm
  unfold addV
  simp only []
  by_cases c1 : n % 8 ≥ 4 <;> by_cases c2 : n % 4 ≥ 2 <;> by_cases c3 : n % 2 = 1 <;> simp only [spec_l11Next.j0, spec_l11Next.j1, e4, e2, c1, c2, c3, if_true, if_false, J3]
theorem next_spec (last step n : Int) (hl : -32767 ≤ last ∧ last ≤ 32767) (hs : 0 ≤ step ∧ step ≤ 48) (h0 : 0 ≤ n) (h1 : n ≤ 15) : Ev (fun k => spec_l11Next.f k last step n) (nextLast last step n, nextStep step n) := by
  obtain ⟨hS, _, hb⟩ := step_at step hs.1 hs.2
  refine Ev_shift 4 (fun k => next_spec_eq k last step n h0 h1) (Ev.bind (f := fun _ s => spec3 last (addV s n) step (moveV (n % 8))) (a := stepV step) ?_ ?_)
  · obtain ⟨K, hK⟩ := hS
    exact ⟨K, fun k hk => hK _ (by omega)⟩
  · have hr := rise_bound (stepV step) (n % 8) hb
    have hd : -6000 ≤ diffV (stepV step) n ∧ diffV (stepV step) n ≤ 6000 := by unfold diffV; split <;> omega
    have hm : -1 ≤ moveV (n % 8) ∧ moveV (n % 8) ≤ 8 := by unfold moveV; split <;> omega
    have e : spec3 last (addV (stepV step) n) step (moveV (n % 8)) = some (nextLast last step n, nextStep step n) := by
      rw [addV_eq _ _ hb]
      unfold spec3 nextLast nextStep clamp48
      rw [w64 (by omega), w64 (by omega)]
    show Ev (fun _ => spec3 last (addV (stepV step) n) step (moveV (n % 8))) _
    rw [e]
    exact Ev.now _
theorem bits_at : ∀ n : Fin 16, Go.bits .and .i64 (n.val : Int) 7 = (n.val : Int) % 8 ∧ Go.bits .and .i64 ((n.val : Int) % 8) 4 = 4 * ((n.val : Int) % 8 / 4) ∧ Go.bits .and .i64 ((n.val : Int) % 8) 2 = 2 * ((n.val : Int) % 4 / 2) ∧ Go.bits .and .i64 ((n.val : Int) % 8) 1 = (n.val : Int) % 2 := by decide +kernel
theorem next_impl_eq (k : Nat) (last step n : Int) (h0 : 0 ≤ n) (h1 : n ≤ 15) :
    impl_Coder_expand.f (k + 4) last step n = (impl_StepSize.f (k + 4) step).bind fun s => spec3 last (addV s n) step (moveV (n % 8)) := by
  have hm := moves n h0 h1
  have hb := bits_at ⟨n.toNat, by omega⟩
  simp only [Int.toNat_of_nonneg h0] at hb
  obtain ⟨b7, b4, b2, b1⟩ := hb
  unfold impl_Coder_expand.f
  congr 1
  funext s
  rw [b7]
  have J2 : ∀ d, impl_Coder_expand.j2 (k + 2) n (n % 8) d last step = spec3 last (if n ≥ 8 then wrap64 (-d) else d) step (moveV (n % 8)) := by
    intro d
    have p1 : 0 ≤ n % 8 := by omega
    have p2 : n % 8 < 8 := by omega
    simp only [impl_Coder_expand.j2, near_eq, near48_eq, Option.bind_some, List.length_cons, List.length_nil, hm]
    unfold spec3
    by_cases c : n ≥ 8
    · rw [if_pos c, if_pos c, if_pos p1, if_pos (by simpa using p2)]
    · rw [if_neg c, if_neg c, if_pos p1, if_pos (by simpa using p2)]
  unfold addV
  simp only []
  by_cases c1 : n % 8 ≥ 4 <;> by_cases c2 : n % 4 ≥ 2 <;> by_cases c3 : n % 2 = 1 <;> simp only [impl_Coder_expand.j0, impl_Coder_expand.j1, b4, b2, b1, c1, c2, c3, if_true, if_false, J2] <;>
    (first | rw [if_pos (by omega)] | rw [if_neg (by omega)]) <;> (first | rw [if_pos (by omega)] | rw [if_neg (by omega)]) <;> (first | rw [if_pos (by omega)] | rw [if_neg (by omega)])
theorem next_impl (last step n : Int) (hl : -32767 ≤ last ∧ last ≤ 32767) (hs : 0 ≤ step ∧ step ≤ 48) (h0 : 0 ≤ n) (h1 : n ≤ 15) : Ev (fun k => impl_Coder_expand.f k last step n) (nextLast last step n, nextStep step n) := by
  obtain ⟨_, hS, hb⟩ := step_at step hs.1 hs.2
  refine Ev_shift 4 (fun k => next_impl_eq k last step n h0 h1) (Ev.bind (f := fun _ s => spec3 last (addV s n) step (moveV (n % 8))) (a := stepV step) ?_ ?_)
  · obtain ⟨K, hK⟩ := hS
    exact ⟨K, fun k hk => hK _ (by omega)⟩
  · have hr := rise_bound (stepV step) (n % 8) hb
    have hd : -6000 ≤ diffV (stepV step) n ∧ diffV (stepV step) n ≤ 6000 := by unfold diffV; split <;> omega
    have hm : -1 ≤ moveV (n % 8) ∧ moveV (n % 8) ≤ 8 := by unfold moveV; split <;> omega
    have e : spec3 last (addV (stepV step) n) step (moveV (n % 8)) = some (nextLast last step n, nextStep step n) := by
      rw [addV_eq _ _ hb]
      unfold spec3 nextLast nextStep clamp48
      rw [w64 (by omega), w64 (by omega)]
    show Ev (fun _ => spec3 last (addV (stepV step) n) step (moveV (n % 8))) _
    rw [e]
    exact Ev.now _

theorem drop_cons (l : List Int) (i : Int) (h0 : 0 ≤ i) (x : Int) (r : List Int) (h : l.drop i.toNat = x :: r) : i < l.length ∧ rd l i = x ∧ l.drop (i + 1).toNat = r := by
  have hl : i.toNat < l.length := by
    by_cases c : i.toNat < l.length
    · exact c
    · rw [List.drop_eq_nil_of_le (by omega)] at h
      cases h
  refine ⟨by omega, ?_, ?_⟩
  · rw [List.drop_eq_getElem_cons hl] at h
    have h1 := (List.cons.inj h).1
    simp only [rd, List.getD_eq_getElem?_getD, List.getElem?_eq_getElem hl, Option.getD_some, h1]
  · rw [List.drop_eq_getElem_cons hl] at h
    have e : (i + 1).toNat = i.toNat + 1 := by omega
    rw [e]
    exact (List.cons.inj h).2
theorem drop_nil (l : List Int) (i : Int) (h0 : 0 ≤ i) (h : l.drop i.toNat = []) : ¬ i < (l.length : Int) := by
  have := List.drop_eq_nil_iff.1 h
  omega

theorem level_eq (x : Int) : spec_l2Level.f x = some (decide (-32767 ≤ x ∧ x ≤ 32767)) := by
  unfold spec_l2Level.f
  rw [l1_eq]
  rfl
def okC (last step : Int) : Bool := decide (-32767 ≤ last ∧ last ≤ 32767) && decide (0 ≤ step ∧ step ≤ 48)
theorem coder_spec (last step : Int) : spec_l11Coder.f last step = some (okC last step) := by
  unfold spec_l11Coder.f okC
  rw [level_eq]
  simp only [Option.bind_some, l1_eq]
  cases decide (-32767 ≤ last ∧ last ≤ 32767) <;> simp
theorem coder_impl (last step : Int) : impl_coderOk.f last step = some (okC last step) := by
  unfold impl_coderOk.f okC
  simp only [in_eq, Option.bind_some]
  cases decide (-32767 ≤ last ∧ last ≤ 32767) <;> simp
theorem okC_iff {last step : Int} (h : okC last step = true) : (-32767 ≤ last ∧ last ≤ 32767) ∧ (0 ≤ step ∧ step ≤ 48) := by simpa [okC] using h

theorem lev_loop_spec (l : List Int) (hl : (l.length : Int) ≤ 1048576) : ∀ (r : List Int) (i : Int), 0 ≤ i → l.drop i.toNat = r →
    Ev (fun k => spec_VoiceOk.l0 k l i) (r.all (fun x => decide (-32767 ≤ x ∧ x ≤ 32767)) && decide ((l.length : Int) ≤ 300))
  | [], i, h0, hd => by
    refine Ev.step (f := fun _ => some (decide ((l.length : Int) ≤ 300))) (fun k => ?_) (by simpa using Ev.now _)
    simp only [spec_VoiceOk.l0]
    rw [if_neg (drop_nil l i h0 hd)]
  | n :: r, i, h0, hd => by
    obtain ⟨hlt, hrd, hdr⟩ := drop_cons l i h0 n r hd
    have ei : wrap64 (i + 1) = i + 1 := w64 (by omega)
    by_cases c : -32767 ≤ n ∧ n ≤ 32767
    · have ih := lev_loop_spec l hl r (i + 1) (by omega) hdr
      rw [List.all_cons, decide_eq_true c, Bool.true_and]
      refine Ev.step (fun k => ?_) ih
      simp only [spec_VoiceOk.l0, if_pos hlt, if_pos h0, hrd, level_eq, Option.bind_some, decide_eq_true c, if_true, ei]
    · rw [List.all_cons, decide_eq_false c, Bool.false_and, Bool.false_and]
      refine Ev.step (f := fun _ => some false) (fun k => ?_) (Ev.now _)
      simp only [spec_VoiceOk.l0, if_pos hlt, if_pos h0, hrd, level_eq, Option.bind_some, decide_eq_false c, if_false, Bool.false_eq_true]
theorem lev_loop_impl (l : List Int) (hl : (l.length : Int) ≤ 1048576) : ∀ (r : List Int) (i : Int), 0 ≤ i → l.drop i.toNat = r →
    Ev (fun k => impl_levelsOk.l0 k l 300 l (l.length : Int) i) (r.all (fun x => decide (-32767 ≤ x ∧ x ≤ 32767)) && decide ((l.length : Int) ≤ 300))
  | [], i, h0, hd => by
    refine Ev.step (f := fun _ => some (decide ((l.length : Int) ≤ 300))) (fun k => ?_) (by simpa using Ev.now _)
    simp only [impl_levelsOk.l0]
    rw [if_neg (drop_nil l i h0 hd)]
  | n :: r, i, h0, hd => by
    obtain ⟨hlt, hrd, hdr⟩ := drop_cons l i h0 n r hd
    have ei : wrap64 (i + 1) = i + 1 := w64 (by omega)
    by_cases c : -32767 ≤ n ∧ n ≤ 32767
    · have ih := lev_loop_impl l hl r (i + 1) (by omega) hdr
      rw [List.all_cons, decide_eq_true c, Bool.true_and]
      refine Ev.step (fun k => ?_) ih
      simp only [impl_levelsOk.l0, if_pos hlt, if_pos h0, hrd, in_eq, Option.bind_some, decide_eq_true c, if_true, ei]
    · rw [List.all_cons, decide_eq_false c, Bool.false_and, Bool.false_and]
      refine Ev.step (f := fun _ => some false) (fun k => ?_) (Ev.now _)
      simp only [impl_levelsOk.l0, if_pos hlt, if_pos h0, hrd, in_eq, Option.bind_some, decide_eq_false c, if_false, Bool.false_eq_true]
def voiceOk (l : List Int) : Bool := l.all (fun x => decide (-32767 ≤ x ∧ x ≤ 32767)) && decide ((l.length : Int) ≤ 300)
theorem voice_spec (l : List Int) (hl : (l.length : Int) ≤ 1048576) : Ev (fun k => spec_VoiceOk.f k l) (voiceOk l) := lev_loop_spec l hl l 0 (by omega) rfl
theorem voice_impl (l : List Int) (hl : (l.length : Int) ≤ 1048576) : Ev (fun k => impl_VoiceOk.f k l) (voiceOk l) := by
  have h := lev_loop_impl l hl l 0 (by omega) rfl
  refine Ev.bind (g := fun k => impl_levelsOk.f k l 300) (f := fun _ t => some t) h (Ev.now _)
theorem voiceOk_iff {l : List Int} (h : voiceOk l = true) : (∀ x ∈ l, -32767 ≤ x ∧ x ≤ 32767) ∧ l.length ≤ 300 := by
  simp only [voiceOk, Bool.and_eq_true, List.all_eq_true, decide_eq_true_eq] at h
  exact ⟨h.1, by omega⟩
/-- The number that a difference is squeezed to. -/
def absV (x : Int) : Int := if x < 0 then -x else x
def numV (s d : Int) : Int := let b := 4 * absV d / s; let b := if b > 7 then 7 else b; if d < 0 then b + 8 else b
theorem numV_bound (s d : Int) (hs : 7 ≤ s) : 0 ≤ numV s d ∧ numV s d ≤ 15 := by
  have h : 0 ≤ 4 * absV d / s := Int.ediv_nonneg (by unfold absV; split <;> omega) (by omega)
  unfold numV
  simp only []
  generalize 4 * absV d / s = b at h
  split <;> split <;> omega
def sqL : List Int → Int → Int → List Int → (List Int × Int × Int × Bool)
  | [], last, step, acc => (acc, last, step, true)
  | x :: r, last, step, acc => sqL r (nextLast last step (numV (stepV step) (x - last))) (nextStep step (numV (stepV step) (x - last))) (acc ++ [numV (stepV step) (x - last)])
theorem sqL_length : ∀ (r : List Int) (last step : Int) (acc : List Int), (sqL r last step acc).1.length = acc.length + r.length
  | [], last, step, acc => by simp [sqL]
  | n :: r, last, step, acc => by
    unfold sqL
    rw [sqL_length r]
    simp only [List.length_append, List.length_cons, List.length_nil]
    omega
theorem size_spec (x : Int) (h : -100000 ≤ x ∧ x ≤ 100000) : spec_l11Size.f x = some (absV x) := by
  unfold spec_l11Size.f absV
  have e : wrap64 (-x) = -x := w64 (by omega)
  rw [e]
  split <;> rfl
theorem size_impl (x : Int) (h : -100000 ≤ x ∧ x ≤ 100000) : impl_size.f x = some (absV x) := by
  unfold impl_size.f absV mx
  have e : wrap64 (-x) = -x := w64 (by omega)
  rw [e]
  congr 1
  split <;> split <;> omega
theorem sq_spec (l : List Int) (hl : l.length ≤ 300) (hx : ∀ x ∈ l, -32767 ≤ x ∧ x ≤ 32767) : ∀ (r : List Int) (i : Int) (last step : Int) (acc : List Int), 0 ≤ i → l.drop i.toNat = r → (-32767 ≤ last ∧ last ≤ 32767) → (0 ≤ step ∧ step ≤ 48) → acc.length ≤ 300 + i.toNat →
    Ev (fun k => spec_Squeeze.l0 k l acc i last step) (sqL r last step acc)
  | [], i, last, step, acc, h0, hd, h1, h2, ha => by
    refine Ev.step (f := fun _ => some (acc, last, step, true)) (fun k => ?_) (Ev.now _)
    simp only [spec_Squeeze.l0]
    rw [if_neg (drop_nil l i h0 hd)]
  | n :: r, i, last, step, acc, h0, hd, h1, h2, ha => by
    obtain ⟨hlt, hrd, hdr⟩ := drop_cons l i h0 n r hd
    have ei : wrap64 (i + 1) = i + 1 := w64 (by omega)
    have ha2 : acc.length < 17592186044416 := by omega
    have hn : -32767 ≤ n ∧ n ≤ 32767 := hx n (List.mem_of_mem_drop (hd ▸ List.mem_cons_self))
    obtain ⟨hS, _, hb⟩ := step_at step h2.1 h2.2
    have hq := numV_bound (stepV step) (n - last) hb.1
    have hv : 0 ≤ absV (n - last) ∧ absV (n - last) ≤ 65534 := by unfold absV; split <;> omega
    have ed : wrap64 (n - last) = n - last := w64 (by omega)
    have e4 : wrap64 (4 * absV (n - last)) = 4 * absV (n - last) := w64 (by omega)
    have hdv : 0 ≤ 4 * absV (n - last) / stepV step ∧ 4 * absV (n - last) / stepV step ≤ 262136 := ⟨Int.ediv_nonneg (by omega) (by omega), Int.le_trans (Int.ediv_le_self _ (by omega)) (by omega)⟩
    have eq : wrap64 (Int.tdiv (4 * absV (n - last)) (stepV step)) = 4 * absV (n - last) / stepV step := by
      rw [Int.tdiv_eq_ediv_of_nonneg (by omega)]
      exact w64 (by omega)
    have hs0 : ¬ stepV step = 0 := by omega
    have hN := next_spec last step (numV (stepV step) (n - last)) h1 h2 hq.1 hq.2
    have hbd := next_bound last step (numV (stepV step) (n - last))
    have ih := sq_spec l hl hx r (i + 1) (nextLast last step (numV (stepV step) (n - last))) (nextStep step (numV (stepV step) (n - last))) (acc ++ [numV (stepV step) (n - last)]) (by omega) hdr hbd.1 hbd.2 (by simp; omega)
    unfold sqL
    have key := Ev.bind (f := fun k (bt : Int × Int) => spec_Squeeze.l0 k l (acc ++ [numV (stepV step) (n - last)]) (i + 1) bt.1 bt.2) hN ih
    refine Ev.step (g := fun k => spec_Squeeze.l0 k l acc i last step) (fun k => by simp only [spec_Squeeze.l0, if_pos hlt, if_pos h0, hrd, ed, size_spec (n - last) (by omega), Option.bind_some, e4]; rfl) ?_
    refine Ev.bind hS ?_
    simp only [if_neg hs0, eq, if_pos ha2, ei]
    refine Ev.congr (fun k => ?_) key
    generalize hD : 4 * absV (n - last) / stepV step = D at hdv
    have e8 : wrap64 (D + 8) = D + 8 := w64 (by omega)
    have hnum : numV (stepV step) (n - last) = if n - last < 0 then (if D > 7 then 7 else D) + 8 else (if D > 7 then 7 else D) := by unfold numV; simp only [hD]
    by_cases c1 : D > 7 <;> by_cases c2 : n - last < 0 <;> simp only [hnum, c1, c2, if_true, if_false, e8] <;> rfl
theorem sq_impl (l : List Int) (hl : l.length ≤ 300) (hx : ∀ x ∈ l, -32767 ≤ x ∧ x ≤ 32767) : ∀ (r : List Int) (i : Int) (last step : Int) (acc : List Int), 0 ≤ i → l.drop i.toNat = r → (-32767 ≤ last ∧ last ≤ 32767) → (0 ≤ step ∧ step ≤ 48) → acc.length ≤ 300 + i.toNat →
    Ev (fun k => impl_Squeeze.l0 k acc l (l.length : Int) i last step) (sqL r last step acc)
  | [], i, last, step, acc, h0, hd, h1, h2, ha => by
    refine Ev.step (f := fun _ => some (acc, last, step, true)) (fun k => ?_) (Ev.now _)
    simp only [impl_Squeeze.l0]
    rw [if_neg (drop_nil l i h0 hd)]
  | n :: r, i, last, step, acc, h0, hd, h1, h2, ha => by
    obtain ⟨hlt, hrd, hdr⟩ := drop_cons l i h0 n r hd
    have ei : wrap64 (i + 1) = i + 1 := w64 (by omega)
    have ha2 : acc.length < 17592186044416 := by omega
    have hn : -32767 ≤ n ∧ n ≤ 32767 := hx n (List.mem_of_mem_drop (hd ▸ List.mem_cons_self))
    obtain ⟨_, hS, hb⟩ := step_at step h2.1 h2.2
    have hq := numV_bound (stepV step) (n - last) hb.1
    have hv : 0 ≤ absV (n - last) ∧ absV (n - last) ≤ 65534 := by unfold absV; split <;> omega
    have ed : wrap64 (n - last) = n - last := w64 (by omega)
    have e4 : wrap64 (4 * absV (n - last)) = 4 * absV (n - last) := w64 (by omega)
    have hdv : 0 ≤ 4 * absV (n - last) / stepV step ∧ 4 * absV (n - last) / stepV step ≤ 262136 := ⟨Int.ediv_nonneg (by omega) (by omega), Int.le_trans (Int.ediv_le_self _ (by omega)) (by omega)⟩
    have eq : wrap64 (Int.tdiv (4 * absV (n - last)) (stepV step)) = 4 * absV (n - last) / stepV step := by
      rw [Int.tdiv_eq_ediv_of_nonneg (by omega)]
      exact w64 (by omega)
    have hs0 : ¬ stepV step = 0 := by omega
    have hN := next_impl last step (numV (stepV step) (n - last)) h1 h2 hq.1 hq.2
    have hbd := next_bound last step (numV (stepV step) (n - last))
    have ih := sq_impl l hl hx r (i + 1) (nextLast last step (numV (stepV step) (n - last))) (nextStep step (numV (stepV step) (n - last))) (acc ++ [numV (stepV step) (n - last)]) (by omega) hdr hbd.1 hbd.2 (by simp; omega)
    unfold sqL
    have key := Ev.bind (f := fun k (bt : Int × Int) => impl_Squeeze.l0 k (acc ++ [numV (stepV step) (n - last)]) l (l.length : Int) (i + 1) bt.1 bt.2) hN ih
    refine Ev.step (g := fun k => impl_Squeeze.l0 k acc l (l.length : Int) i last step) (fun k => by simp only [impl_Squeeze.l0, if_pos hlt, if_pos h0, hrd, ed, size_impl (n - last) (by omega), Option.bind_some, e4]; rfl) ?_
    refine Ev.bind hS ?_
    simp only [if_neg hs0, eq, if_pos ha2, ei]
    refine Ev.congr (fun k => ?_) key
    generalize hD : 4 * absV (n - last) / stepV step = D at hdv
    have em : mn 7 D = if D > 7 then 7 else D := by unfold mn; split <;> split <;> omega
    have e8 : wrap64 ((if D > 7 then 7 else D) + 8) = (if D > 7 then 7 else D) + 8 := w64 (by split <;> omega)
    have hnum : numV (stepV step) (n - last) = if n - last < 0 then (if D > 7 then 7 else D) + 8 else (if D > 7 then 7 else D) := by unfold numV; simp only [hD]
    by_cases c2 : n - last < 0 <;> simp only [hnum, em, c2, if_true, if_false, e8] <;> rfl
def squeeze (last step : Int) (l : List Int) : List Int × Int × Int × Bool := if okC last step = true ∧ voiceOk l = true then sqL l last step [] else ([], 0, 0, false)
theorem squeeze_length (last step : Int) (l : List Int) : (squeeze last step l).1.length ≤ 300 := by
  unfold squeeze
  split
  · rename_i h
    have h2 := (voiceOk_iff h.2).2
    rw [sqL_length]
    simpa using h2
  · simp
theorem squeeze_spec (last step : Int) (l : List Int) (hl : (l.length : Int) ≤ 1048576) : Ev (fun k => spec_Squeeze.f k last step l) (squeeze last step l) := by
  simp only [spec_Squeeze.f, coder_spec, Option.bind_some]
  unfold squeeze
  by_cases c : okC last step = true
  · simp only [if_pos c, c, true_and]
    refine Ev.bind (voice_spec l hl) ?_
    by_cases d : voiceOk l = true
    · rw [if_pos d, d]
      have hv := voiceOk_iff d
      refine Ev.step (fun k => ?_) (sq_spec l hv.2 hv.1 l 0 last step [] (by omega) rfl (okC_iff c).1 (okC_iff c).2 (by simp))
      simp only [spec_Squeeze.j0, Bool.not_true, Bool.false_eq_true, if_false]
    · rw [if_neg d, Bool.eq_false_iff.2 d]
      refine Ev.step (f := fun _ => some ([], 0, 0, false)) (fun k => ?_) (Ev.now _)
      simp only [spec_Squeeze.j0, Bool.not_false, if_true]
  · simp only [if_neg c]
    rw [if_neg (by simp [c])]
    refine Ev.step (f := fun _ => some ([], 0, 0, false)) (fun k => ?_) (Ev.now _)
    simp only [spec_Squeeze.j0, if_true]
theorem squeeze_impl (last step : Int) (l : List Int) (hl : (l.length : Int) ≤ 1048576) : Ev (fun k => impl_Squeeze.f k last step l) (squeeze last step l) := by
  simp only [impl_Squeeze.f, coder_impl, Option.bind_some]
  unfold squeeze
  by_cases c : okC last step = true
  · simp only [if_pos c, c, true_and]
    refine Ev.bind (voice_impl l hl) ?_
    by_cases d : voiceOk l = true
    · rw [if_pos d, d]
      have hv := voiceOk_iff d
      refine Ev.step (fun k => ?_) (sq_impl l hv.2 hv.1 l 0 last step [] (by omega) rfl (okC_iff c).1 (okC_iff c).2 (by simp))
      simp only [impl_Squeeze.j0, Bool.not_true, Bool.false_eq_true, if_false]
    · rw [if_neg d, Bool.eq_false_iff.2 d]
      refine Ev.step (f := fun _ => some ([], 0, 0, false)) (fun k => ?_) (Ev.now _)
      simp only [impl_Squeeze.j0, Bool.not_false, if_true]
  · simp only [if_neg c]
    rw [if_neg (by simp [c])]
    refine Ev.step (f := fun _ => some ([], 0, 0, false)) (fun k => ?_) (Ev.now _)
    simp only [impl_Squeeze.j0, if_true]

def exL : List Int → Int → Int → List Int → (List Int × Int × Int × Bool)
  | [], last, step, acc => (acc, last, step, true)
  | n :: r, last, step, acc => if 0 ≤ n ∧ n ≤ 15 then exL r (nextLast last step n) (nextStep step n) (acc ++ [nextLast last step n]) else ([], 0, 0, false)
theorem exL_length : ∀ (r : List Int) (last step : Int) (acc : List Int), (exL r last step acc).1.length ≤ acc.length + r.length
  | [], last, step, acc => by simp [exL]
  | n :: r, last, step, acc => by
    unfold exL
    split
    · have h := exL_length r (nextLast last step n) (nextStep step n) (acc ++ [nextLast last step n])
      simp only [List.length_append, List.length_cons, List.length_nil] at h ⊢
      omega
    · simp
theorem ex_impl (l : List Int) (hl : l.length ≤ 300) : ∀ (r : List Int) (i : Int) (last step : Int) (acc : List Int), 0 ≤ i → l.drop i.toNat = r → (-32767 ≤ last ∧ last ≤ 32767) → (0 ≤ step ∧ step ≤ 48) → acc.length ≤ 300 + i.toNat →
    Ev (fun k => impl_Expand.l0 k acc l (l.length : Int) i last step) (exL r last step acc)
  | [], i, last, step, acc, h0, hd, h1, h2, ha => by
    refine Ev.step (f := fun _ => some (acc, last, step, true)) (fun k => ?_) (Ev.now _)
    simp only [impl_Expand.l0]
    rw [if_neg (drop_nil l i h0 hd)]
  | n :: r, i, last, step, acc, h0, hd, h1, h2, ha => by
    obtain ⟨hlt, hrd, hdr⟩ := drop_cons l i h0 n r hd
    have ei : wrap64 (i + 1) = i + 1 := w64 (by omega)
    have ha2 : acc.length < 17592186044416 := by omega
    unfold exL
    by_cases c : 0 ≤ n ∧ n ≤ 15
    · rw [if_pos c]
      have hb := next_bound last step n
      have ih := ex_impl l hl r (i + 1) (nextLast last step n) (nextStep step n) (acc ++ [nextLast last step n]) (by omega) hdr hb.1 hb.2 (by simp; omega)
      refine Ev.step (fun k => ?_) (Ev.bind (f := fun k (bt : Int × Int) => impl_Expand.l0 k (acc ++ [bt.1]) l (l.length : Int) (i + 1) bt.1 bt.2) (next_impl last step n h1 h2 c.1 c.2) ih)
      simp only [impl_Expand.l0, if_pos hlt, if_pos h0, hrd, in_eq, Option.bind_some, decide_eq_true c, if_true, if_pos ha2, ei]
    · rw [if_neg c]
      refine Ev.step (f := fun _ => some ([], 0, 0, false)) (fun k => ?_) (Ev.now _)
      simp only [impl_Expand.l0, if_pos hlt, if_pos h0, hrd, in_eq, Option.bind_some, decide_eq_false c, if_false, Bool.false_eq_true]
def expand (last step : Int) (l : List Int) : List Int × Int × Int × Bool := if okC last step = true ∧ l.length ≤ 300 then exL l last step [] else ([], 0, 0, false)
theorem expand_length (last step : Int) (l : List Int) : (expand last step l).1.length ≤ 300 := by
  unfold expand
  split
  · rename_i h
    have := exL_length l last step []
    simp at this
    omega
  · simp
theorem expand_impl (last step : Int) (l : List Int) : Ev (fun k => impl_Expand.f k last step l) (expand last step l) := by
  have e : ∀ k, impl_Expand.f k last step l = if okC last step = true then impl_Expand.j0 k l (decide ((l.length : Int) > 300)) last step else impl_Expand.j0 k l true last step := by
    intro k
    unfold impl_Expand.f
    rw [coder_impl]
    rfl
  refine Ev.congr e ?_
  unfold expand
  by_cases c : okC last step = true
  · simp only [if_pos c, c, true_and]
    by_cases d : l.length ≤ 300
    · have hd : ¬ (l.length : Int) > 300 := by omega
      rw [if_pos d]
      refine Ev.step (fun k => ?_) (ex_impl l d l 0 last step [] (by omega) rfl (okC_iff c).1 (okC_iff c).2 (by simp))
      simp only [impl_Expand.j0, decide_eq_false hd, Bool.false_eq_true, if_false, if_true]
    · have hd : (l.length : Int) > 300 := by omega
      rw [if_neg d]
      refine Ev.step (f := fun _ => some ([], 0, 0, false)) (fun k => ?_) (Ev.now _)
      simp only [impl_Expand.j0, decide_eq_true hd, if_true]
  · simp only [if_neg c]
    rw [if_neg (by simp [c])]
    refine Ev.step (f := fun _ => some ([], 0, 0, false)) (fun k => ?_) (Ev.now _)
    simp only [impl_Expand.j0, if_true]


/-! The cursor over what is drawn: it never falls, whatever its numbers -/
theorem and_bound (x m : Int) (h0 : 0 ≤ m) (h1 : m ≤ 2000000000) : 0 ≤ Go.bits .and .i64 x m ∧ Go.bits .and .i64 x m ≤ m := by
  have e : (BitVec.ofInt 64 m).toNat = m.toNat := by
    rw [BitVec.toNat_ofInt]
    have : m % ((2 ^ 64 : Nat) : Int) = m := Int.emod_eq_of_lt h0 (by omega)
    rw [this]
  have hle : (BitVec.ofInt 64 x &&& BitVec.ofInt 64 m).toNat ≤ m.toNat := by
    rw [BitVec.toNat_and, e]
    exact Nat.and_le_right
  have hw : Go.bits .and .i64 x m = ((BitVec.ofInt 64 x &&& BitVec.ofInt 64 m).toNat : Int) := by
    show IntKind.i64.wrap (((BitVec.ofInt 64 x &&& BitVec.ofInt 64 m).toNat : Nat) : Int) = _
    rw [IntKind.wrap_i64]
    omega
  omega
theorem byte_ok (l : List Int) (s1 s2 : Int) (hl : (l.length : Int) ≤ 1048576) (h0 : 0 ≤ s1) : ∃ b t1 t2, spec_l1Byte.f l s1 s2 = some (b, t1, t2) ∧ 0 ≤ b ∧ b ≤ 255 ∧ 0 ≤ t1 := by
  unfold spec_l1Byte.f
  by_cases c : s1 < (l.length : Int)
  · rw [if_pos c, if_pos h0]
    refine ⟨_, _, _, rfl, (and_bound _ 255 (by omega) (by omega)).1, (and_bound _ 255 (by omega) (by omega)).2, ?_⟩
    rw [w64 (by omega)]
    omega
  · rw [if_neg c]
    exact ⟨_, _, _, rfl, (and_bound _ 255 (by omega) (by omega)).1, (and_bound _ 255 (by omega) (by omega)).2, h0⟩
theorem below_ok (l : List Int) (s1 s2 n : Int) (hl : (l.length : Int) ≤ 1048576) (h0 : 0 ≤ s1) : ∃ r t1 t2, spec_l1Below.f l s1 s2 n = some (r, t1, t2) ∧ 0 ≤ t1 ∧ (0 < n → 0 ≤ r ∧ r < n) ∧ (n ≤ 0 → r = 0) := by
  unfold spec_l1Below.f
  by_cases c : n ≤ 0
  · rw [if_pos c]
    exact ⟨_, _, _, rfl, h0, fun h => absurd h (by omega), fun _ => rfl⟩
  · rw [if_neg c]
    by_cases c2 : n ≤ 256
    · rw [if_pos c2]
      obtain ⟨b, t1, t2, e, b0, b1, b2⟩ := byte_ok l s1 s2 hl h0
      rw [e]
      simp only [Option.bind_some]
      rw [if_neg (by omega)]
      refine ⟨_, _, _, rfl, b2, fun _ => ?_, fun h => absurd h (by omega)⟩
      rw [Int.tmod_eq_emod_of_nonneg b0]
      exact ⟨Int.emod_nonneg _ (by omega), Int.emod_lt_of_pos _ (by omega)⟩
    · rw [if_neg c2]
      obtain ⟨b, t1, t2, e, b0, b1, b2⟩ := byte_ok l s1 s2 hl h0
      rw [e]
      simp only [Option.bind_some]
      obtain ⟨b', t1', t2', e', b0', b1', b2'⟩ := byte_ok l t1 t2 hl b2
      rw [e']
      simp only [Option.bind_some]
      obtain ⟨b'', t1'', t2'', e'', b0'', b1'', b2''⟩ := byte_ok l t1' t2' hl b2'
      rw [e'']
      simp only [Option.bind_some]
      obtain ⟨c', u1, u2, f, g0, g1, g2⟩ := byte_ok l t1'' t2'' hl b2''
      rw [f]
      simp only [Option.bind_some]
      rw [if_neg (by omega)]
      refine ⟨_, _, _, rfl, g2, fun _ => ?_, fun h => absurd h (by omega)⟩
      rw [Int.tmod_eq_emod_of_nonneg (by unfold wrap64; omega)]
      exact ⟨Int.emod_nonneg _ (by omega), Int.emod_lt_of_pos _ (by omega)⟩
theorem once_ok (l : List Int) (s1 s2 n : Int) (hl : (l.length : Int) ≤ 1048576) (h0 : 0 ≤ s1) : ∃ r t1 t2, spec_l1Once.f l s1 s2 n = some (r, t1, t2) ∧ 0 ≤ t1 := by
  unfold spec_l1Once.f
  obtain ⟨r, t1, t2, e, h, _⟩ := below_ok l s1 s2 n hl h0
  rw [e]
  exact ⟨_, _, _, rfl, h⟩
theorem new_ok (l : List Int) (hl : (l.length : Int) ≤ 1048576) : ∃ h, Ev (fun k => spec_l1New.f k l) (l, 0, h) := by
  have key : ∀ (d : Nat) (i h : Int), 0 ≤ i → i ≤ l.length → (l.length : Int) - i = d → ∃ h', Ev (fun k => spec_l1New.l0 k l h i) (l, 0, h') := by
    intro d
    induction d with
    | zero =>
      intro i h h0 h1 hd
      refine ⟨h, Ev.step (f := fun _ => some (l, 0, h)) (fun k => ?_) (Ev.now _)⟩
      simp only [spec_l1New.l0]
      rw [if_neg (by omega)]
    | succ d ih =>
      intro i h h0 h1 hd
      have ei : wrap64 (i + 1) = i + 1 := w64 (by omega)
      by_cases c : i < 4000
      · obtain ⟨h', hh⟩ := ih (i + 1) (Go.bits .and .i64 (wrap64 ((wrap64 ((wrap64 (h * 131)) + (wrap64 (rd l i)))) + 7)) 1073741823) (by omega) (by omega) (by omega)
        refine ⟨h', Ev.step (fun k => ?_) hh⟩
        simp only [spec_l1New.l0]
        rw [if_pos (by omega), if_pos c, if_pos h0, ei]
      · refine ⟨h, Ev.step (f := fun _ => some (l, 0, h)) (fun k => ?_) (Ev.now _)⟩
        simp only [spec_l1New.l0]
        rw [if_pos (by omega), if_neg c]
  exact key l.length 0 _ (by omega) (by omega) (by omega)


theorem pick_ok (l : List Int) (s1 s2 : Int) (p : List Int) (hl : (l.length : Int) ≤ 1048576) (h0 : 0 ≤ s1) (hp : 0 < p.length) : ∃ r t1 t2, spec_l1PickInt.f l s1 s2 p = some (r, t1, t2) ∧ 0 ≤ t1 ∧ r ∈ p := by
  unfold spec_l1PickInt.f
  obtain ⟨r, t1, t2, e, h, hr, _⟩ := below_ok l s1 s2 (p.length : Int) hl h0
  obtain ⟨r0, r1⟩ := hr (by omega)
  rw [e]
  simp only [Option.bind_some]
  rw [if_pos r0, if_pos r1]
  exact ⟨_, _, _, rfl, h, List.mem_of_getElem? (rd_at p r r0 r1)⟩

theorem l11_loop (s : List Int) (hs : (s.length : Int) ≤ 1048576) (n : Int) (hn9 : n ≤ 900) (d : Nat) : ∀ (x : List Int) (u v i s1 s2 : Int), 0 ≤ i → i ≤ 1000 → n - i ≤ d → (x.length : Int) + d ≤ 1000 → 0 ≤ s1 →
    ∃ R t1 t2, Ev (fun k => spec_l11Draw.l0 k n x u v i s s1 s2) (R, t1, t2) ∧ 0 ≤ t1 ∧ (R.length : Int) ≤ x.length + d := by
  induction d with
  | zero =>
    intro x u v i s1 s2 hi hi2 hn hx h0
    refine ⟨x, s1, s2, Ev.step (f := fun _ => some (x, s1, s2)) (fun k => ?_) (Ev.now _), h0, by omega⟩
    simp only [spec_l11Draw.l0]
    rw [if_neg (by omega)]
  | succ d ih =>
    intro x u v i s1 s2 hi hi2 hn hx h0
    by_cases c : i < n
    · have ei : wrap64 (i + 1) = i + 1 := w64 (by omega)
      obtain ⟨b, a1, b1, e1, p1⟩ := once_ok s s1 s2 12 hs h0
      cases b with
      | true =>
        obtain ⟨q, a2, b2, e2, p2, _⟩ := pick_ok s a1 b1 [32767, -32767, 0, 5000, -20000] hs p1 (by decide)
        obtain ⟨r, a3, b3, e3, p3, _⟩ := below_ok s a2 b2 401 hs p2
        by_cases c2 : i + 1 ≤ 1000
        · obtain ⟨R, t1, t2, hR, q0, q1⟩ := ih (x ++ [q]) (clipV (wrap64 (q + (wrap64 ((wrap64 (v + r)) - 200))))) (wrap64 ((wrap64 (v + r)) - 200)) (i + 1) a3 b3 (by omega) c2 (by omega) (by simp; omega) p3
          refine ⟨R, t1, t2, Ev.step (fun k => ?_) hR, q0, by simp at q1; omega⟩
          simp only [spec_l11Draw.l0]
          rw [if_pos c]
          simp only [e1, e2, e3, Option.bind_some, if_true, clip_eq, ei]
          rw [if_pos (by omega)]
        · omega
      | false =>
        obtain ⟨r, a3, b3, e3, p3, _⟩ := below_ok s a1 b1 401 hs p1
        by_cases c2 : i + 1 ≤ 1000
        · obtain ⟨R, t1, t2, hR, q0, q1⟩ := ih (x ++ [u]) (clipV (wrap64 (u + (wrap64 ((wrap64 (v + r)) - 200))))) (wrap64 ((wrap64 (v + r)) - 200)) (i + 1) a3 b3 (by omega) c2 (by omega) (by simp; omega) p3
          refine ⟨R, t1, t2, Ev.step (fun k => ?_) hR, q0, by simp at q1; omega⟩
          simp only [spec_l11Draw.l0]
          rw [if_pos c]
          simp only [e1, e3, Option.bind_some, Bool.false_eq_true, if_false, clip_eq, ei]
          rw [if_pos (by omega)]
        · omega
    · refine ⟨x, s1, s2, Ev.step (f := fun _ => some (x, s1, s2)) (fun k => ?_) (Ev.now _), h0, by omega⟩
      simp only [spec_l11Draw.l0]
      rw [if_neg c]
theorem l11_draw (s : List Int) (hs : (s.length : Int) ≤ 1048576) (n s1 s2 : Int) (hn : n ≤ 900) (h0 : 0 ≤ s1) : ∃ R t1 t2, Ev (fun k => spec_l11Draw.f k s s1 s2 n) (R, t1, t2) ∧ 0 ≤ t1 ∧ (R.length : Int) ≤ 900 := by
  obtain ⟨r, a1, b1, e1, p1, _⟩ := below_ok s s1 s2 2001 hs h0
  obtain ⟨R, t1, t2, hR, q0, q1⟩ := l11_loop s hs n hn 900 [] (wrap64 (r - 1000)) 0 0 a1 b1 (by omega) (by omega) (by omega) (by simp) p1
  refine ⟨R, t1, t2, Ev.congr (fun k => ?_) hR, q0, by simpa using q1⟩
  unfold spec_l11Draw.f
  simp only [e1, Option.bind_some]
theorem coder_draw (s : List Int) (hs : (s.length : Int) ≤ 1048576) (s1 s2 : Int) (h0 : 0 ≤ s1) : ∃ a b t1 t2, spec_l11DrawCoder.f s s1 s2 = some (a, b, t1, t2) ∧ 0 ≤ t1 := by
  obtain ⟨r1, a1, b1, e1, p1, _⟩ := below_ok s s1 s2 4001 hs h0
  obtain ⟨r2, a2, b2, e2, p2, _⟩ := below_ok s a1 b1 49 hs p1
  obtain ⟨r3, a3, b3, e3, p3, _⟩ := below_ok s a2 b2 30 hs p2
  obtain ⟨v1, a4, b4, e4, p4, _⟩ := pick_ok s a3 b3 [32767, 32768, -32768] hs p3 (by decide)
  obtain ⟨v2, a5, b5, e5, p5, _⟩ := pick_ok s a3 b3 [-1, 49] hs p3 (by decide)
  unfold spec_l11DrawCoder.f
  simp only [e1, e2, e3, Option.bind_some]
  by_cases k0 : r3 = 0
  · rw [if_pos k0]
    simp only [e4, Option.bind_some]
    exact ⟨_, _, _, _, rfl, p4⟩
  · rw [if_neg k0]
    by_cases k1 : r3 = 1
    · rw [if_pos k1]
      simp only [e5, Option.bind_some]
      exact ⟨_, _, _, _, rfl, p5⟩
    · rw [if_neg k1]
      exact ⟨_, _, _, _, rfl, p3⟩
theorem back (r : List Int) : ∀ (last step : Int), (-32767 ≤ last ∧ last ≤ 32767) → (0 ≤ step ∧ step ≤ 48) → ∃ ns ls e1 e2, (∀ acc, sqL r last step acc = (acc ++ ns, e1, e2, true)) ∧ (∀ acc, exL ns last step acc = (acc ++ ls, e1, e2, true)) ∧ ns.length = r.length ∧ ls.length = r.length ∧ ls.getLastD last = e1 := by
  induction r with
  | nil => intro last step hl hs; exact ⟨[], [], last, step, fun acc => by simp [sqL], fun acc => by simp [exL], rfl, rfl, rfl⟩
  | cons x r ih =>
    intro last step hl hs
    have hn := numV_bound (stepV step) (x - last) (step_at step hs.1 hs.2).2.2.1
    have hb := next_bound last step (numV (stepV step) (x - last))
    generalize hN : numV (stepV step) (x - last) = n at hn hb
    obtain ⟨ns, ls, e1, e2, h1, h2, h3, h4, h5⟩ := ih (nextLast last step n) (nextStep step n) hb.1 hb.2
    refine ⟨n :: ns, nextLast last step n :: ls, e1, e2, fun acc => ?_, fun acc => ?_, by simp [h3], by simp [h4], ?_⟩
    · rw [sqL, hN, h1, List.append_assoc]; rfl
    · rw [exL, if_pos hn, h2, List.append_assoc]; rfl
    · rw [List.getLastD_cons]; exact h5

theorem sqL_ok : ∀ (r : List Int) (last step : Int) (acc : List Int), (sqL r last step acc).2.2.2 = true
  | [], _, _, _ => rfl
  | x :: r, last, step, acc => by
    unfold sqL
    exact sqL_ok r _ _ _
/-- The frame of a list of levels, its coder behind it, and whether it was right. -/
def frameV (a b : Int) (l : List Int) : Int × Int × Int × Int × Int × Int × Int × Int × Int × Int × Int × Int × Int × Int × Int × Int × Int × Int × Bool := if okC a b = true ∧ voiceOk l = true ∧ l.length = 30 then (impl_FrameOf.b0 b, impl_FrameOf.bt (squeeze a b l).1 0, impl_FrameOf.bt (squeeze a b l).1 1, impl_FrameOf.bt (squeeze a b l).1 2, impl_FrameOf.bt (squeeze a b l).1 3, impl_FrameOf.bt (squeeze a b l).1 4, impl_FrameOf.bt (squeeze a b l).1 5, impl_FrameOf.bt (squeeze a b l).1 6, impl_FrameOf.bt (squeeze a b l).1 7, impl_FrameOf.bt (squeeze a b l).1 8, impl_FrameOf.bt (squeeze a b l).1 9, impl_FrameOf.bt (squeeze a b l).1 10, impl_FrameOf.bt (squeeze a b l).1 11, impl_FrameOf.bt (squeeze a b l).1 12, impl_FrameOf.bt (squeeze a b l).1 13, impl_FrameOf.bt (squeeze a b l).1 14, (squeeze a b l).2.1, (squeeze a b l).2.2.1, true) else (0, 0, 0, 0, 0, 0, 0, 0, 0, 0, 0, 0, 0, 0, 0, 0, 0, 0, false)
theorem sq_len (a b : Int) (l : List Int) (h1 : okC a b = true) (h2 : voiceOk l = true) : (squeeze a b l).1.length = l.length ∧ (squeeze a b l).2.2.2 = true := by
  unfold squeeze
  rw [if_pos ⟨h1, h2⟩]
  exact ⟨by rw [sqL_length]; simp, sqL_ok l a b []⟩
theorem frame_spec (a b : Int) (l : List Int) (hl : (l.length : Int) ≤ 1048576) : Ev (fun k => spec_FrameOf.f k a b l) (frameV a b l) := by
  have e : ∀ k, spec_FrameOf.f k a b l = if okC a b = true then ((spec_VoiceOk.f k l).bind fun v => if v = true ∧ l.length = 30 then ((spec_Squeeze.f k a b l).bind fun bt => if 30 ≤ bt.1.length then some (spec_FrameOf.b0 b, spec_FrameOf.bt bt.1 0, spec_FrameOf.bt bt.1 1, spec_FrameOf.bt bt.1 2, spec_FrameOf.bt bt.1 3, spec_FrameOf.bt bt.1 4, spec_FrameOf.bt bt.1 5, spec_FrameOf.bt bt.1 6, spec_FrameOf.bt bt.1 7, spec_FrameOf.bt bt.1 8, spec_FrameOf.bt bt.1 9, spec_FrameOf.bt bt.1 10, spec_FrameOf.bt bt.1 11, spec_FrameOf.bt bt.1 12, spec_FrameOf.bt bt.1 13, spec_FrameOf.bt bt.1 14, bt.2.1, bt.2.2.1, true) else none) else some (0, 0, 0, 0, 0, 0, 0, 0, 0, 0, 0, 0, 0, 0, 0, 0, 0, 0, false)) else some (0, 0, 0, 0, 0, 0, 0, 0, 0, 0, 0, 0, 0, 0, 0, 0, 0, 0, false) := by
    intro k
    unfold spec_FrameOf.f
    rw [coder_spec]
    rfl
  refine Ev.congr e ?_
  unfold frameV
  by_cases c : okC a b = true
  · simp only [if_pos c, c, true_and]
    refine Ev.bind (voice_spec l hl) ?_
    by_cases d : voiceOk l = true ∧ l.length = 30
    · have hq := sq_len a b l c d.1
      have hn : 30 ≤ (squeeze a b l).1.length := by omega
      simp only [if_pos d]
      refine Ev.bind (squeeze_spec a b l hl) ?_
      simp only [if_pos hn]
      exact Ev.now _
    · simp only [if_neg d]
      exact Ev.now _
  · simp only [if_neg c]
    rw [if_neg (fun h => c h.1)]
    exact Ev.now _
theorem frame_impl (a b : Int) (l : List Int) (hl : (l.length : Int) ≤ 1048576) : Ev (fun k => impl_FrameOf.f k a b l) (frameV a b l) := by
  refine Ev.congr (g := fun k => impl_FrameOf.f k a b l) (f := fun k => (impl_Squeeze.f k a b l).bind fun bt => if bt.2.2.2 = true ∧ l.length = 30 then (if 30 ≤ bt.1.length then some (impl_FrameOf.b0 b, impl_FrameOf.bt bt.1 0, impl_FrameOf.bt bt.1 1, impl_FrameOf.bt bt.1 2, impl_FrameOf.bt bt.1 3, impl_FrameOf.bt bt.1 4, impl_FrameOf.bt bt.1 5, impl_FrameOf.bt bt.1 6, impl_FrameOf.bt bt.1 7, impl_FrameOf.bt bt.1 8, impl_FrameOf.bt bt.1 9, impl_FrameOf.bt bt.1 10, impl_FrameOf.bt bt.1 11, impl_FrameOf.bt bt.1 12, impl_FrameOf.bt bt.1 13, impl_FrameOf.bt bt.1 14, bt.2.1, bt.2.2.1, true) else none) else some (0, 0, 0, 0, 0, 0, 0, 0, 0, 0, 0, 0, 0, 0, 0, 0, 0, 0, false)) (fun k => by unfold impl_FrameOf.f; rfl) ?_
  refine Ev.bind (squeeze_impl a b l hl) ?_
  unfold frameV
  by_cases c : okC a b = true ∧ voiceOk l = true
  · have hq := sq_len a b l c.1 c.2
    by_cases d : l.length = 30
    · have hn : 30 ≤ (squeeze a b l).1.length := by omega
      simp only [hq.2, c.1, c.2, d, if_true, and_self, if_pos hn]
      exact Ev.now _
    · simp only [d, and_false, if_false]
      exact Ev.now _
  · have h4 : (squeeze a b l).2.2.2 = false := by unfold squeeze; rw [if_neg c]
    have c2 : ¬ (okC a b = true ∧ voiceOk l = true ∧ l.length = 30) := fun h => c ⟨h.1, h.2.1⟩
    simp only [h4, if_neg c2, Bool.false_eq_true, false_and, if_false]
    exact Ev.now _

theorem byte_opsI : ∀ b : Fin 256, impl_OfFrame.n1 (b.val : Int) = (b.val : Int) / 16 ∧ impl_OfFrame.n2 (b.val : Int) = (b.val : Int) % 16 := by decide +kernel
theorem byte_opI (b : Int) (h : 0 ≤ b ∧ b ≤ 255) : impl_OfFrame.n1 b = b / 16 ∧ impl_OfFrame.n2 b = b % 16 := by
  obtain ⟨n, rfl⟩ := Int.eq_ofNat_of_zero_le h.1
  exact byte_opsI ⟨n, by omega⟩
/-- The numbers of a frame's bytes. -/
def nums : List Int → List Int
  | [] => []
  | b :: r => b / 16 :: b % 16 :: nums r
theorem flat_nums (f g : Int → Int) : ∀ (l : List Int), (∀ b ∈ l, f b = b / 16 ∧ g b = b % 16) → (l.flatMap fun b => [f b, g b]) = nums l
  | [], _ => rfl
  | b :: r, h => by
    have h1 := h b (by simp)
    have h2 := flat_nums f g r (fun x hx => h x (by simp [hx]))
    simp only [List.flatMap_cons, h1.1, h1.2, h2, nums, List.cons_append, List.nil_append]
theorem ofI (a0 b0 : Int) (r : List Int) (hr : ∀ b ∈ b0 :: r, 0 ≤ b ∧ b ≤ 255) : Ev (fun k => impl_Expand.f k a0 (wrap64 (rd (b0 :: r) 0)) (((b0 :: r).drop 1).flatMap fun b => [impl_OfFrame.n1 b, impl_OfFrame.n2 b])) (expand a0 b0 (nums r)) := by
  have hb := hr b0 (by simp)
  have e1 : (((b0 :: r).drop 1).flatMap fun b => [impl_OfFrame.n1 b, impl_OfFrame.n2 b]) = nums r := flat_nums _ _ r (fun b hx => byte_opI b (hr b (by simp [hx])))
  have e2 : rd (b0 :: r) 0 = b0 := rfl
  rw [e1, e2, w64 (by omega)]
  exact expand_impl a0 b0 _

theorem l11_loop2 (s : List Int) (hs : (s.length : Int) ≤ 1048576) (n : Int) (hn9 : n ≤ 900) (d : Nat) : ∀ (x : List Int) (u v i s1 s2 : Int), 0 ≤ i → i ≤ 1000 → n - i ≤ d → (x.length : Int) + d ≤ 1000 → 0 ≤ s1 →
    ∃ R t1 t2, Ev (fun k => spec_l11Draw.l0 k n x u v i s s1 s2) (R, t1, t2) ∧ 0 ≤ t1 ∧ (R.length : Int) ≤ x.length + d ∧ (x.length : Int) ≤ R.length ∧ (i < n → (x.length : Int) + 1 ≤ R.length) := by
  induction d with
  | zero =>
    intro x u v i s1 s2 hi hi2 hn hx h0
    refine ⟨x, s1, s2, Ev.step (f := fun _ => some (x, s1, s2)) (fun k => ?_) (Ev.now _), h0, by omega, by omega, fun h => by omega⟩
    simp only [spec_l11Draw.l0]
    rw [if_neg (by omega)]
  | succ d ih =>
    intro x u v i s1 s2 hi hi2 hn hx h0
    by_cases c : i < n
    · have ei : wrap64 (i + 1) = i + 1 := w64 (by omega)
      obtain ⟨b, a1, b1, e1, p1⟩ := once_ok s s1 s2 12 hs h0
      cases b with
      | true =>
        obtain ⟨q, a2, b2, e2, p2, _⟩ := pick_ok s a1 b1 [32767, -32767, 0, 5000, -20000] hs p1 (by decide)
        obtain ⟨r, a3, b3, e3, p3, _⟩ := below_ok s a2 b2 401 hs p2
        by_cases c2 : i + 1 ≤ 1000
        · obtain ⟨R, t1, t2, hR, q0, q1, q2, _⟩ := ih (x ++ [q]) (clipV (wrap64 (q + (wrap64 ((wrap64 (v + r)) - 200))))) (wrap64 ((wrap64 (v + r)) - 200)) (i + 1) a3 b3 (by omega) c2 (by omega) (by simp; omega) p3
          refine ⟨R, t1, t2, Ev.step (fun k => ?_) hR, q0, by simp at q1; omega, by simp at q2; omega, fun _ => by simp at q2; omega⟩
          simp only [spec_l11Draw.l0]
          rw [if_pos c]
          simp only [e1, e2, e3, Option.bind_some, if_true, clip_eq, ei]
          rw [if_pos (by omega)]
        · omega
      | false =>
        obtain ⟨r, a3, b3, e3, p3, _⟩ := below_ok s a1 b1 401 hs p1
        by_cases c2 : i + 1 ≤ 1000
        · obtain ⟨R, t1, t2, hR, q0, q1, q2, _⟩ := ih (x ++ [u]) (clipV (wrap64 (u + (wrap64 ((wrap64 (v + r)) - 200))))) (wrap64 ((wrap64 (v + r)) - 200)) (i + 1) a3 b3 (by omega) c2 (by omega) (by simp; omega) p3
          refine ⟨R, t1, t2, Ev.step (fun k => ?_) hR, q0, by simp at q1; omega, by simp at q2; omega, fun _ => by simp at q2; omega⟩
          simp only [spec_l11Draw.l0]
          rw [if_pos c]
          simp only [e1, e3, Option.bind_some, Bool.false_eq_true, if_false, clip_eq, ei]
          rw [if_pos (by omega)]
        · omega
    · refine ⟨x, s1, s2, Ev.step (f := fun _ => some (x, s1, s2)) (fun k => ?_) (Ev.now _), h0, by omega, by omega, fun h => by omega⟩
      simp only [spec_l11Draw.l0]
      rw [if_neg c]
theorem l11_draw2 (s : List Int) (hs : (s.length : Int) ≤ 1048576) (n s1 s2 : Int) (hn : n ≤ 900) (h0 : 0 ≤ s1) : ∃ R t1 t2, Ev (fun k => spec_l11Draw.f k s s1 s2 n) (R, t1, t2) ∧ 0 ≤ t1 ∧ (R.length : Int) ≤ 900 ∧ (0 < n → 0 < (R.length : Int)) := by
  obtain ⟨r, a1, b1, e1, p1, _⟩ := below_ok s s1 s2 2001 hs h0
  obtain ⟨R, t1, t2, hR, q0, q1, _, q2⟩ := l11_loop2 s hs n hn 900 [] (wrap64 (r - 1000)) 0 0 a1 b1 (by omega) (by omega) (by omega) (by simp) p1
  refine ⟨R, t1, t2, Ev.congr (fun k => ?_) hR, q0, by simpa using q1, fun h => by have := q2 h; simp at this; omega⟩
  unfold spec_l11Draw.f
  simp only [e1, Option.bind_some]
theorem frame_draw (s : List Int) (hs : (s.length : Int) ≤ 1048576) : ∃ a b l, Ev (fun k => spec_DrawFrameOf.f k s) (a, b, l) ∧ (l.length : Int) ≤ 1000 := by
  obtain ⟨h, hN⟩ := new_ok s hs
  obtain ⟨b, a1, b1, e1, p1⟩ := once_ok s 0 h 12 hs (by omega)
  have J : ∀ (n s1 s2 : Int), 1 ≤ n → n ≤ 40 → 0 ≤ s1 → ∃ a b l, Ev (fun k => spec_DrawFrameOf.j0 k n s s1 s2) (a, b, l) ∧ (l.length : Int) ≤ 1000 := by
    intro n s1 s2 hn0 hn1 h0
    obtain ⟨R, t1, t2, hR, q0, q1, q2⟩ := l11_draw2 s hs n s1 s2 (by omega) h0
    obtain ⟨c, a3, b3, e3, p3⟩ := once_ok s t1 t2 30 hs q0
    obtain ⟨a, b, c1, d1, e4, p4⟩ := coder_draw s hs a3 b3 p3
    cases c with
    | true =>
      refine ⟨a, b, R.set (0 : Int).toNat 32768, Ev.step (fun k => by simp only [spec_DrawFrameOf.j0]; rfl) (Ev.bind hR ?_), by rw [List.length_set]; omega⟩
      simp only [e3, Option.bind_some, if_true, if_pos (show n > 0 by omega), if_pos (q2 (by omega)), e4]
      exact Ev.now _
    | false =>
      refine ⟨a, b, R, Ev.step (fun k => by simp only [spec_DrawFrameOf.j0]; rfl) (Ev.bind hR ?_), by omega⟩
      simp only [e3, Option.bind_some, Bool.false_eq_true, if_false, e4]
      exact Ev.now _
  cases b with
  | true =>
    obtain ⟨r, a2, b2, e2, p2, hr, _⟩ := below_ok s a1 b1 3 hs p1
    have hr := hr (by omega)
    obtain ⟨a, b, l, hJ, hl⟩ := J (30 + r - 1) a2 b2 (by omega) (by omega) p2
    refine ⟨a, b, l, Ev.congr (fun k => by unfold spec_DrawFrameOf.f; rfl) (Ev.bind hN ?_), hl⟩
    simp only [e1, Option.bind_some, if_true, e2]
    rw [w64 (x := 30 + r) (by omega), w64 (x := 30 + r - 1) (by omega)]
    exact hJ
  | false =>
    obtain ⟨a, b, l, hJ, hl⟩ := J 30 a1 b1 (by omega) (by omega) p1
    refine ⟨a, b, l, Ev.congr (fun k => by unfold spec_DrawFrameOf.f; rfl) (Ev.bind hN ?_), hl⟩
    simp only [e1, Option.bind_some, Bool.false_eq_true, if_false]
    exact hJ

theorem big_eq (l : List Int) : laws_big.f l = some (decide ((l.length : Int) > 1048576)) := rfl
theorem sqL_bound : ∀ (r : List Int) (last step : Int) (acc : List Int), (-32767 ≤ last ∧ last ≤ 32767) → (0 ≤ step ∧ step ≤ 48) → (∀ y ∈ acc, 0 ≤ y ∧ y ≤ 15) → ∀ y ∈ (sqL r last step acc).1, 0 ≤ y ∧ y ≤ 15
  | [], _, _, _, _, _, h => h
  | x :: r, last, step, acc, hl, hs, h => by
    unfold sqL
    have hn := numV_bound (stepV step) (x - last) (step_at step hs.1 hs.2).2.2.1
    have hb := next_bound last step (numV (stepV step) (x - last))
    refine sqL_bound r _ _ _ hb.1 hb.2 (fun y hy => ?_)
    rcases List.mem_append.1 hy with h1 | h1
    · exact h y h1
    · rw [List.mem_singleton.1 h1]; exact hn
theorem rd_bound (ns : List Int) (hb : ∀ y ∈ ns, 0 ≤ y ∧ y ≤ 15) (i : Int) : 0 ≤ rd ns i ∧ rd ns i ≤ 15 := by
  unfold rd
  rw [List.getD_eq_getElem?_getD]
  cases h : ns[i.toNat]? with
  | none => simp
  | some y => exact hb y (List.mem_of_getElem? h)
theorem u8_small (x : Int) (h : 0 ≤ x ∧ x ≤ 255) : IntKind.u8.wrap x = x := by
  obtain ⟨n, rfl⟩ := Int.eq_ofNat_of_zero_le h.1
  exact (show ∀ m : Fin 256, IntKind.u8.wrap (m.val : Int) = (m.val : Int) by decide +kernel) ⟨n, by omega⟩
theorem bt_eq (ns : List Int) (hb : ∀ y ∈ ns, 0 ≤ y ∧ y ≤ 15) (j : Int) : impl_FrameOf.bt ns j = 16 * rd ns (2 * j) + rd ns (2 * j + 1) := by
  have h1 := rd_bound ns hb (2 * j)
  have h2 := rd_bound ns hb (2 * j + 1)
  unfold impl_FrameOf.bt
  rw [w64 (x := 16 * rd ns (2 * j)) (by omega), w64 (x := 16 * rd ns (2 * j) + rd ns (2 * j + 1)) (by omega), u8_small _ (by omega)]
theorem nums_pair (a b : Int) (r : List Int) (ha : 0 ≤ a ∧ a ≤ 15) (hb : 0 ≤ b ∧ b ≤ 15) : nums ((16 * a + b) :: r) = a :: b :: nums r := by
  rw [nums, show (16 * a + b) / 16 = a by omega, show (16 * a + b) % 16 = b by omega]
theorem all_rd (ns : List Int) : (List.range ns.length).map (fun (i : Nat) => rd ns (i : Int)) = ns := by
  apply List.ext_getElem
  · simp
  · intro i h1 h2
    simp [rd, List.getD_eq_getElem?_getD, List.getElem?_eq_getElem h2]
theorem nums_bts (ns : List Int) (hb : ∀ y ∈ ns, 0 ≤ y ∧ y ≤ 15) (hl : ns.length = 30) : nums [impl_FrameOf.bt ns 0, impl_FrameOf.bt ns 1, impl_FrameOf.bt ns 2, impl_FrameOf.bt ns 3, impl_FrameOf.bt ns 4, impl_FrameOf.bt ns 5, impl_FrameOf.bt ns 6, impl_FrameOf.bt ns 7, impl_FrameOf.bt ns 8, impl_FrameOf.bt ns 9, impl_FrameOf.bt ns 10, impl_FrameOf.bt ns 11, impl_FrameOf.bt ns 12, impl_FrameOf.bt ns 13, impl_FrameOf.bt ns 14] = ns := by
  simp only [bt_eq ns hb]
  have e : nums [16 * rd ns (2 * 0) + rd ns (2 * 0 + 1), 16 * rd ns (2 * 1) + rd ns (2 * 1 + 1), 16 * rd ns (2 * 2) + rd ns (2 * 2 + 1), 16 * rd ns (2 * 3) + rd ns (2 * 3 + 1), 16 * rd ns (2 * 4) + rd ns (2 * 4 + 1), 16 * rd ns (2 * 5) + rd ns (2 * 5 + 1), 16 * rd ns (2 * 6) + rd ns (2 * 6 + 1), 16 * rd ns (2 * 7) + rd ns (2 * 7 + 1), 16 * rd ns (2 * 8) + rd ns (2 * 8 + 1), 16 * rd ns (2 * 9) + rd ns (2 * 9 + 1), 16 * rd ns (2 * 10) + rd ns (2 * 10 + 1), 16 * rd ns (2 * 11) + rd ns (2 * 11 + 1), 16 * rd ns (2 * 12) + rd ns (2 * 12 + 1), 16 * rd ns (2 * 13) + rd ns (2 * 13 + 1), 16 * rd ns (2 * 14) + rd ns (2 * 14 + 1)] = [rd ns (2 * 0), rd ns (2 * 0 + 1), rd ns (2 * 1), rd ns (2 * 1 + 1), rd ns (2 * 2), rd ns (2 * 2 + 1), rd ns (2 * 3), rd ns (2 * 3 + 1), rd ns (2 * 4), rd ns (2 * 4 + 1), rd ns (2 * 5), rd ns (2 * 5 + 1), rd ns (2 * 6), rd ns (2 * 6 + 1), rd ns (2 * 7), rd ns (2 * 7 + 1), rd ns (2 * 8), rd ns (2 * 8 + 1), rd ns (2 * 9), rd ns (2 * 9 + 1), rd ns (2 * 10), rd ns (2 * 10 + 1), rd ns (2 * 11), rd ns (2 * 11 + 1), rd ns (2 * 12), rd ns (2 * 12 + 1), rd ns (2 * 13), rd ns (2 * 13 + 1), rd ns (2 * 14), rd ns (2 * 14 + 1)] := by
    iterate 15 rw [nums_pair _ _ _ (rd_bound ns hb _) (rd_bound ns hb _)]
    rfl
  rw [e]
  have h := all_rd ns
  rw [hl] at h
  exact h
theorem zero_frame : (squeeze 0 0 (List.replicate 30 0)).1 = List.replicate 30 0 ∧ voiceOk (List.replicate 30 0) = true := by decide +kernel
theorem zero_bt : impl_FrameOf.bt (List.replicate 30 0) 0 = 0 := by decide +kernel
theorem same_ev (l : List Int) (hl : (l.length : Int) ≤ 1048576) : Ev (fun k => laws_sameInts.f k l l) true := by
  have L : ∀ (d : Nat) (i : Int), 0 ≤ i → i ≤ l.length → (l.length : Int) - i = d → Ev (fun k => laws_sameInts.l0 k l l i) true := by
    intro d
    induction d with
    | zero =>
      intro i h0 h1 h2
      refine Ev.step (f := fun _ => some true) (fun k => ?_) (Ev.now _)
      simp only [laws_sameInts.l0]
      rw [if_neg (by omega)]
    | succ d ih =>
      intro i h0 h1 h2
      refine Ev.step (fun k => ?_) (ih (i + 1) (by omega) (by omega) (by omega))
      simp only [laws_sameInts.l0]
      rw [if_pos (show i < (l.length : Int) by omega), if_pos h0]
      simp [w64 (x := i + 1) (by omega), show i < (l.length : Int) by omega]
  refine Ev.congr (f := fun k => laws_sameInts.l0 k l l 0) (fun k => by simp [laws_sameInts.f]) (L l.length 0 (by omega) (by omega) (by omega))
theorem FnFramed : SFnFramed.Pure := by
  intro s hs0
  apply Ev.rounds
  by_cases hb : (s.length : Int) > 1048576
  · refine Ev.congr (f := fun _ => some true) (fun k => ?_) (Ev.now _)
    simp [laws_FnFramed.f, big_eq, hb]
  have hs : (s.length : Int) ≤ 1048576 := by omega
  obtain ⟨a, b, l, hD, hl⟩ := frame_draw s hs
  have hS := frame_spec a b l (by omega)
  have hI := frame_impl a b l (by omega)
  simp only [laws_FnFramed.f, big_eq, decide_eq_false hb, Option.bind_some, Bool.false_eq_true, if_false]
  refine Ev.bind hD ?_
  refine Ev.bind hI ?_
  refine Ev.bind hS ?_
  simp only [if_true]
  by_cases c : okC a b = true ∧ voiceOk l = true ∧ l.length = 30
  · obtain ⟨ha, hst⟩ := okC_iff c.1
    obtain ⟨ns, ls, e1, e2, h1, h2, h3, h4, h5⟩ := back l a b ha hst
    have eS : squeeze a b l = (ns, e1, e2, true) := by unfold squeeze; rw [if_pos ⟨c.1, c.2.1⟩, h1]; rfl
    have eX : expand a b ns = (ls, e1, e2, true) := by unfold expand; rw [if_pos ⟨c.1, by have := c.2.2; omega⟩, h2]; rfl
    have hQ := squeeze_impl a b l (by omega)
    have hX := expand_impl a b ns
    rw [eS] at hQ
    rw [eX] at hX
    have hbn : ∀ y ∈ ns, 0 ≤ y ∧ y ≤ 15 := by
      have := sqL_bound l a b [] ha hst (by simp)
      rw [h1] at this
      simpa using this
    have eF : frameV a b l = (impl_FrameOf.b0 b, impl_FrameOf.bt ns 0, impl_FrameOf.bt ns 1, impl_FrameOf.bt ns 2, impl_FrameOf.bt ns 3, impl_FrameOf.bt ns 4, impl_FrameOf.bt ns 5, impl_FrameOf.bt ns 6, impl_FrameOf.bt ns 7, impl_FrameOf.bt ns 8, impl_FrameOf.bt ns 9, impl_FrameOf.bt ns 10, impl_FrameOf.bt ns 11, impl_FrameOf.bt ns 12, impl_FrameOf.bt ns 13, impl_FrameOf.bt ns 14, e1, e2, true) := by unfold frameV; rw [if_pos c, eS]
    have eb : impl_FrameOf.b0 b = b := u8_small b (by omega)
    have hr : ∀ y ∈ [impl_FrameOf.b0 b, impl_FrameOf.bt ns 0, impl_FrameOf.bt ns 1, impl_FrameOf.bt ns 2, impl_FrameOf.bt ns 3, impl_FrameOf.bt ns 4, impl_FrameOf.bt ns 5, impl_FrameOf.bt ns 6, impl_FrameOf.bt ns 7, impl_FrameOf.bt ns 8, impl_FrameOf.bt ns 9, impl_FrameOf.bt ns 10, impl_FrameOf.bt ns 11, impl_FrameOf.bt ns 12, impl_FrameOf.bt ns 13, impl_FrameOf.bt ns 14], 0 ≤ y ∧ y ≤ 255 := by
      intro y hy
      simp only [List.mem_cons, List.not_mem_nil, or_false] at hy
      have hbb : ∀ j : Int, 0 ≤ impl_FrameOf.bt ns j ∧ impl_FrameOf.bt ns j ≤ 255 := fun j => by
        rw [bt_eq ns hbn j]
        have q1 := rd_bound ns hbn (2 * j)
        have q2 := rd_bound ns hbn (2 * j + 1)
        omega
      rcases hy with rfl | rfl | rfl | rfl | rfl | rfl | rfl | rfl | rfl | rfl | rfl | rfl | rfl | rfl | rfl | rfl
      · rw [eb]; omega
      all_goals exact hbb _
    have hO : Ev (fun k => impl_OfFrame.f k a (impl_FrameOf.b0 b) (impl_FrameOf.bt ns 0) (impl_FrameOf.bt ns 1) (impl_FrameOf.bt ns 2) (impl_FrameOf.bt ns 3) (impl_FrameOf.bt ns 4) (impl_FrameOf.bt ns 5) (impl_FrameOf.bt ns 6) (impl_FrameOf.bt ns 7) (impl_FrameOf.bt ns 8) (impl_FrameOf.bt ns 9) (impl_FrameOf.bt ns 10) (impl_FrameOf.bt ns 11) (impl_FrameOf.bt ns 12) (impl_FrameOf.bt ns 13) (impl_FrameOf.bt ns 14)) (ls, e1, e2, true) := by
      have h := ofI a (impl_FrameOf.b0 b) [impl_FrameOf.bt ns 0, impl_FrameOf.bt ns 1, impl_FrameOf.bt ns 2, impl_FrameOf.bt ns 3, impl_FrameOf.bt ns 4, impl_FrameOf.bt ns 5, impl_FrameOf.bt ns 6, impl_FrameOf.bt ns 7, impl_FrameOf.bt ns 8, impl_FrameOf.bt ns 9, impl_FrameOf.bt ns 10, impl_FrameOf.bt ns 11, impl_FrameOf.bt ns 12, impl_FrameOf.bt ns 13, impl_FrameOf.bt ns 14] hr
      rw [nums_bts ns hbn (by have := c.2.2; omega), eb, eX] at h
      rw [eb]
      exact h
    rw [eF]
    simp only [if_true]
    refine Ev.bind hQ ?_
    refine Ev.bind hX ?_
    refine Ev.bind hO ?_
    refine Ev.bind (same_ev ls (by have := c.2.2; omega)) ?_
    rw [if_pos ⟨rfl, rfl, rfl, rfl, by rw [eb]; exact w64 (by omega), by show ls.length = 30; have := c.2.2; omega⟩]
    exact Ev.now _
  · have eF : frameV a b l = (0, 0, 0, 0, 0, 0, 0, 0, 0, 0, 0, 0, 0, 0, 0, 0, 0, 0, false) := by unfold frameV; rw [if_neg c]
    rw [eF]
    simp only [Bool.false_eq_true, if_false]
    have hz := frame_impl 0 0 (List.replicate 30 0) (by decide)
    refine Ev.bind hz ?_
    have hc : okC 0 0 = true ∧ voiceOk (List.replicate 30 0) = true ∧ (List.replicate 30 (0 : Int)).length = 30 := ⟨rfl, zero_frame.2, rfl⟩
    unfold frameV
    have hx : impl_FrameOf.bt (squeeze 0 0 (List.replicate 30 0)).1 0 = 0 := by rw [zero_frame.1]; exact zero_bt
    simp only [if_pos hc, hx, and_self, if_true]
    exact Ev.now _

end Go.Proofs.Yteaelhdcmnhcbaa.Pure
