/- Frames of which some come twice are played as if they had come once, but for what was thrown away. No condition. -/
import Derived.Test.YtbgdmbjipladoaaSFnTwice
set_option linter.unusedVariables false
set_option linter.unusedSimpArgs false
namespace Go.Proofs.Ytbgdmbjipladoaa.Pure
open Go.RowKit Go.Proofs.Ytbgdmbjipladoaa.PFnTwice Go.Proofs.Ytbgdmbjipladoaa.SFnTwice Go.Proofs.YtbgdmbjipladoaaW.PrintWords Go.Proofs.YtbgdmbjipladoaaW.PrintLast Go.Proofs.YtbgdmbjipladoaaW.PrintMore
theorem w64 {x : Int} (h : -9000000000000000000 ≤ x ∧ x ≤ 9000000000000000000) : wrap64 x = x := by unfold wrap64; omega
theorem rd_at (l : List Int) (i : Int) (h0 : 0 ≤ i) (h1 : i < l.length) : l[i.toNat]? = some (rd l i) := by
  simp [rd, List.getD_eq_getElem?_getD, List.getElem?_eq_getElem (show i.toNat < l.length by omega)]

theorem gen_to {α β : Type} (l : List α) (hl : (l.length : Int) ≤ 1048576) (F : Nat → List β → Int → Option (List β)) (g : Int → β)
    (hF : ∀ k m i, 0 ≤ i → i < (l.length : Int) → i < (m.length : Int) → F (k + 1) m i = F k (m.set i.toNat (g i)) (wrap64 (i + 1))) (hE : ∀ k m i, ¬ i < (l.length : Int) → F (k + 1) m i = some m)
    (G : α → β) (hg : ∀ (i : Nat) (h : i < l.length), g i = G l[i]) (d : Nat) : ∀ (i : Int) (m : List β), 0 ≤ i → i ≤ l.length → (l.length : Int) - i = d → m.length = l.length →
    (∀ j : Nat, (j : Int) < i → m[j]? = (l.map G)[j]?) → Ev (fun k => F k m i) (l.map G) := by
  induction d with
  | zero =>
    intro i m h0 h1 hd hm hp
    refine Ev.step (f := fun _ => some (l.map G)) (fun k => ?_) (Ev.now _)
    rw [hE k m i (by omega)]
    congr 1
    apply List.ext_getElem?
    intro j
    by_cases hj : j < l.length
    · exact hp j (by omega)
    · rw [List.getElem?_eq_none (by omega), List.getElem?_eq_none (by simp; omega)]
  | succ d ih =>
    intro i m h0 h1 hd hm hp
    have ei : wrap64 (i + 1) = i + 1 := w64 (by omega)
    refine Ev.step (fun k => ?_) (ih (i + 1) (m.set i.toNat (g i)) (by omega) (by omega) (by omega) (by simpa using hm) ?_)
    · rw [hF k m i h0 (by omega) (by omega), ei]
    · intro j hj
      by_cases e : j = i.toNat
      · subst e
        rw [List.getElem?_set_self (by omega), List.getElem?_map, List.getElem?_eq_getElem (show i.toNat < l.length by omega)]
        have := hg i.toNat (by omega)
        rw [Int.toNat_of_nonneg h0] at this
        rw [this]
        rfl
      · rw [List.getElem?_set_ne (by omega)]
        exact hp j (by omega)
theorem gen_eq {n : Nat} (hl : (n : Int) ≤ 1048576) (F : Nat → Int → Option Bool) (hF : ∀ k i, 0 ≤ i → i < (n : Int) → F (k + 1) i = F k (wrap64 (i + 1))) (hE : ∀ k i, ¬ i < (n : Int) → F (k + 1) i = some true)
    (d : Nat) : ∀ (i : Int), 0 ≤ i → i ≤ n → (n : Int) - i = d → Ev (fun k => F k i) true := by
  induction d with
  | zero =>
    intro i h0 h1 hd
    exact Ev.step (f := fun _ => some true) (fun k => hE k i (by omega)) (Ev.now _)
  | succ d ih =>
    intro i h0 h1 hd
    have ei : wrap64 (i + 1) = i + 1 := w64 (by omega)
    refine Ev.step (fun k => ?_) (ih (i + 1) (by omega) (by omega) (by omega))
    rw [hF k i h0 (by omega), ei]
theorem getD_at {α : Type} (l : List α) (z : α) (i : Nat) (h : i < l.length) : l.getD i z = l[i] := by simp [List.getD_eq_getElem?_getD, h]

def stepV (n : Int) : Int := ((impl_StepSize.f 60 n).getD 0)
theorem steps : ∀ n : Fin 49, impl_StepSize.f 60 (n.val : Int) = some (stepV (n.val : Int)) ∧ 7 ≤ stepV (n.val : Int) ∧ stepV (n.val : Int) ≤ 3000 := by decide +kernel
theorem step_at (n : Int) (h0 : 0 ≤ n) (h1 : n ≤ 48) : True ∧ Ev (fun k => impl_StepSize.f k n) (stepV n) ∧ 7 ≤ stepV n ∧ stepV n ≤ 3000 := by
  have h := steps ⟨n.toNat, by omega⟩
  simp only [Int.toNat_of_nonneg h0] at h
  exact ⟨trivial, Ev.of (fun k => impl_StepSize.mono n k) h.1, h.2⟩
theorem in_eq (x a b : Int) : impl_in.f x a b = some (decide (a ≤ x ∧ x ≤ b)) := by
  unfold impl_in.f
  by_cases h : x ≥ a
  · rw [if_pos h]; simp; intro _; exact h
  · rw [if_neg h]; simp; omega
/-- The coder behind a number. -/
def clipV (x : Int) : Int := if x > 32767 then 32767 else if x < -32767 then -32767 else x
def moveV (q : Int) : Int := if q < 4 then -1 else 2 * (q - 3)
def rise (s q : Int) : Int := s / 8 + (if q ≥ 4 then s else 0) + (if q % 4 ≥ 2 then s / 2 else 0) + (if q % 2 = 1 then s / 4 else 0)
def diffV (s n : Int) : Int := if n ≥ 8 then -(rise s (n % 8)) else rise s (n % 8)
def nextLast (last step n : Int) : Int := clipV (last + diffV (stepV step) n)
def nextStep (step n : Int) : Int := let t := step + moveV (n % 8); if t < 0 then 0 else if t > 48 then 48 else t
theorem rise_bound (s q : Int) (hs : 7 ≤ s ∧ s ≤ 3000) : 0 ≤ rise s q ∧ rise s q ≤ 6000 := by unfold rise; split <;> split <;> split <;> omega
theorem clip_bound (x : Int) : -32767 ≤ clipV x ∧ clipV x ≤ 32767 := by unfold clipV; split <;> (try split) <;> omega
theorem next_bound (last step n : Int) : (-32767 ≤ nextLast last step n ∧ nextLast last step n ≤ 32767) ∧ 0 ≤ nextStep step n ∧ nextStep step n ≤ 48 := by
  refine ⟨clip_bound _, ?_⟩
  unfold nextStep
  simp only []
  split
  · omega
  · split <;> omega

theorem Ev_shift {α : Type} {g f : Nat → Option α} {r : α} (c : Nat) (h : ∀ k, g (k + c) = f k) (k : Ev f r) : Ev g r := by
  obtain ⟨K, hK⟩ := k
  refine ⟨K + c, fun n hn => ?_⟩
  have := h (n - c)
  rw [Nat.sub_add_cancel (by omega)] at this
  rw [this]
  exact hK _ (by omega)
theorem near_eq (x : Int) : impl_nearer.f x (-32767) 32767 = some (clipV x) := by
  unfold impl_nearer.f clipV mn mx
  congr 1
  split <;> split <;> (try split) <;> omega
def clamp48 (t : Int) : Int := if t < 0 then 0 else if t > 48 then 48 else t
theorem near48_eq (x : Int) : impl_nearer.f x 0 48 = some (clamp48 x) := by
  unfold impl_nearer.f clamp48 mn mx
  congr 1
  split <;> split <;> (try split) <;> omega
def spec3 (last d step m : Int) : Option (Int × Int) := some (clipV (wrap64 (last + d)), clamp48 (wrap64 (step + m)))
/-- What a number's bits add. -/
def addV (s n : Int) : Int :=
  let d := wrap64 (Int.tdiv s 8)
  let d := if n % 8 ≥ 4 then wrap64 (d + s) else d
  let d := if n % 4 ≥ 2 then wrap64 (d + wrap64 (Int.tdiv s 2)) else d
  let d := if n % 2 = 1 then wrap64 (d + wrap64 (Int.tdiv s 4)) else d
  if n ≥ 8 then wrap64 (-d) else d
theorem addV_eq (s n : Int) (hs : 7 ≤ s ∧ s ≤ 3000) : addV s n = diffV s n := by
  have e1 : wrap64 (Int.tdiv s 8) = s / 8 := by rw [Int.tdiv_eq_ediv_of_nonneg (by omega)]; exact w64 (by omega)
  have e2 : wrap64 (Int.tdiv s 2) = s / 2 := by rw [Int.tdiv_eq_ediv_of_nonneg (by omega)]; exact w64 (by omega)
  have e3 : wrap64 (Int.tdiv s 4) = s / 4 := by rw [Int.tdiv_eq_ediv_of_nonneg (by omega)]; exact w64 (by omega)
  unfold addV diffV rise
  simp only [e1, e2, e3]
  have a1 : n % 8 % 4 = n % 4 := by omega
  have a2 : n % 8 % 2 = n % 2 := by omega
  rw [a1, a2]
  by_cases c1 : n % 8 ≥ 4 <;> by_cases c2 : n % 4 ≥ 2 <;> by_cases c3 : n % 2 = 1 <;> by_cases c4 : n ≥ 8 <;> simp only [c1, c2, c3, c4, if_true, if_false] <;> (try unfold wrap64) <;> omega
theorem move_at : ∀ n : Fin 16, rd [(-1), (-1), (-1), (-1), 2, 4, 6, 8] ((n.val : Int) % 8) = moveV ((n.val : Int) % 8) := by decide +kernel
theorem moves (n : Int) (h0 : 0 ≤ n) (h1 : n ≤ 15) : rd [(-1), (-1), (-1), (-1), 2, 4, 6, 8] (n % 8) = moveV (n % 8) := by
  have h := move_at ⟨n.toNat, by omega⟩
  simpa only [Int.toNat_of_nonneg h0] using h
theorem bits_at : ∀ n : Fin 16, Go.bits .and .i64 (n.val : Int) 7 = (n.val : Int) % 8 ∧ Go.bits .and .i64 ((n.val : Int) % 8) 4 = 4 * ((n.val : Int) % 8 / 4) ∧ Go.bits .and .i64 ((n.val : Int) % 8) 2 = 2 * ((n.val : Int) % 4 / 2) ∧ Go.bits .and .i64 ((n.val : Int) % 8) 1 = (n.val : Int) % 2 := by decide +kernel
theorem next_impl_eq (k : Nat) (last step n : Int) (h0 : 0 ≤ n) (h1 : n ≤ 15) :
    impl_Coder_expand.f (k + 4) last step n = (impl_StepSize.f (k + 4) step).bind fun s => spec3 last (addV s n) step (moveV (n % 8)) := by
  have hm := moves n h0 h1
  have hb := bits_at ⟨n.toNat, by omega⟩
  simp only [Int.toNat_of_nonneg h0] at hb
  obtain ⟨b7, b4, b2, b1⟩ := hb
  unfold impl_Coder_expand.f
  congr 1
  funext s
  rw [b7]
  have J2 : ∀ d, impl_Coder_expand.j2 (k + 2) n (n % 8) d last step = spec3 last (if n ≥ 8 then wrap64 (-d) else d) step (moveV (n % 8)) := by
    intro d
    have p1 : 0 ≤ n % 8 := by omega
    have p2 : n % 8 < 8 := by omega
    simp only [impl_Coder_expand.j2, near_eq, near48_eq, Option.bind_some, List.length_cons, List.length_nil, hm]
    unfold spec3
    by_cases c : n ≥ 8
    · rw [if_pos c, if_pos c, if_pos p1, if_pos (by simpa using p2)]
    · rw [if_neg c, if_neg c, if_pos p1, if_pos (by simpa using p2)]
  unfold addV
  simp only []
  by_cases c1 : n % 8 ≥ 4 <;> by_cases c2 : n % 4 ≥ 2 <;> by_cases c3 : n % 2 = 1 <;> simp only [impl_Coder_expand.j0, impl_Coder_expand.j1, b4, b2, b1, c1, c2, c3, if_true, if_false, J2] <;>
    (first | rw [if_pos (by omega)] | rw [if_neg (by omega)]) <;> (first | rw [if_pos (by omega)] | rw [if_neg (by omega)]) <;> (first | rw [if_pos (by omega)] | rw [if_neg (by omega)])
theorem next_impl (last step n : Int) (hl : -32767 ≤ last ∧ last ≤ 32767) (hs : 0 ≤ step ∧ step ≤ 48) (h0 : 0 ≤ n) (h1 : n ≤ 15) : Ev (fun k => impl_Coder_expand.f k last step n) (nextLast last step n, nextStep step n) := by
  obtain ⟨_, hS, hb⟩ := step_at step hs.1 hs.2
  refine Ev_shift 4 (fun k => next_impl_eq k last step n h0 h1) (Ev.bind (f := fun _ s => spec3 last (addV s n) step (moveV (n % 8))) (a := stepV step) ?_ ?_)
  · obtain ⟨K, hK⟩ := hS
    exact ⟨K, fun k hk => hK _ (by omega)⟩
  · have hr := rise_bound (stepV step) (n % 8) hb
    have hd : -6000 ≤ diffV (stepV step) n ∧ diffV (stepV step) n ≤ 6000 := by unfold diffV; split <;> omega
    have hm : -1 ≤ moveV (n % 8) ∧ moveV (n % 8) ≤ 8 := by unfold moveV; split <;> omega
    have e : spec3 last (addV (stepV step) n) step (moveV (n % 8)) = some (nextLast last step n, nextStep step n) := by
      rw [addV_eq _ _ hb]
      unfold spec3 nextLast nextStep clamp48
      rw [w64 (by omega), w64 (by omega)]
    show Ev (fun _ => spec3 last (addV (stepV step) n) step (moveV (n % 8))) _
    rw [e]
    exact Ev.now _

theorem drop_cons (l : List Int) (i : Int) (h0 : 0 ≤ i) (x : Int) (r : List Int) (h : l.drop i.toNat = x :: r) : i < l.length ∧ rd l i = x ∧ l.drop (i + 1).toNat = r := by
  have hl : i.toNat < l.length := by
    by_cases c : i.toNat < l.length
    · exact c
    · rw [List.drop_eq_nil_of_le (by omega)] at h
      cases h
  refine ⟨by omega, ?_, ?_⟩
  · rw [List.drop_eq_getElem_cons hl] at h
    have h1 := (List.cons.inj h).1
    simp only [rd, List.getD_eq_getElem?_getD, List.getElem?_eq_getElem hl, Option.getD_some, h1]
  · rw [List.drop_eq_getElem_cons hl] at h
    have e : (i + 1).toNat = i.toNat + 1 := by omega
    rw [e]
    exact (List.cons.inj h).2
theorem drop_nil (l : List Int) (i : Int) (h0 : 0 ≤ i) (h : l.drop i.toNat = []) : ¬ i < (l.length : Int) := by
  have := List.drop_eq_nil_iff.1 h
  omega

def okC (last step : Int) : Bool := decide (-32767 ≤ last ∧ last ≤ 32767) && decide (0 ≤ step ∧ step ≤ 48)
theorem coder_impl (last step : Int) : impl_coderOk.f last step = some (okC last step) := by
  unfold impl_coderOk.f okC
  simp only [in_eq, Option.bind_some]
  cases decide (-32767 ≤ last ∧ last ≤ 32767) <;> simp
theorem okC_iff {last step : Int} (h : okC last step = true) : (-32767 ≤ last ∧ last ≤ 32767) ∧ (0 ≤ step ∧ step ≤ 48) := by simpa [okC] using h

def exL : List Int → Int → Int → List Int → (List Int × Int × Int × Bool)
  | [], last, step, acc => (acc, last, step, true)
  | n :: r, last, step, acc => if 0 ≤ n ∧ n ≤ 15 then exL r (nextLast last step n) (nextStep step n) (acc ++ [nextLast last step n]) else ([], 0, 0, false)
theorem exL_length : ∀ (r : List Int) (last step : Int) (acc : List Int), (exL r last step acc).1.length ≤ acc.length + r.length
  | [], last, step, acc => by simp [exL]
  | n :: r, last, step, acc => by
    unfold exL
    split
    · have h := exL_length r (nextLast last step n) (nextStep step n) (acc ++ [nextLast last step n])
      simp only [List.length_append, List.length_cons, List.length_nil] at h ⊢
      omega
    · simp
theorem ex_impl (l : List Int) (hl : l.length ≤ 300) : ∀ (r : List Int) (i : Int) (last step : Int) (acc : List Int), 0 ≤ i → l.drop i.toNat = r → (-32767 ≤ last ∧ last ≤ 32767) → (0 ≤ step ∧ step ≤ 48) → acc.length ≤ 300 + i.toNat →
    Ev (fun k => impl_Expand.l0 k acc l (l.length : Int) i last step) (exL r last step acc)
  | [], i, last, step, acc, h0, hd, h1, h2, ha => by
    refine Ev.step (f := fun _ => some (acc, last, step, true)) (fun k => ?_) (Ev.now _)
    simp only [impl_Expand.l0]
    rw [if_neg (drop_nil l i h0 hd)]
  | n :: r, i, last, step, acc, h0, hd, h1, h2, ha => by
    obtain ⟨hlt, hrd, hdr⟩ := drop_cons l i h0 n r hd
    have ei : wrap64 (i + 1) = i + 1 := w64 (by omega)
    have ha2 : acc.length < 17592186044416 := by omega
    unfold exL
    by_cases c : 0 ≤ n ∧ n ≤ 15
    · rw [if_pos c]
      have hb := next_bound last step n
      have ih := ex_impl l hl r (i + 1) (nextLast last step n) (nextStep step n) (acc ++ [nextLast last step n]) (by omega) hdr hb.1 hb.2 (by simp; omega)
      refine Ev.step (fun k => ?_) (Ev.bind (f := fun k (bt : Int × Int) => impl_Expand.l0 k (acc ++ [bt.1]) l (l.length : Int) (i + 1) bt.1 bt.2) (next_impl last step n h1 h2 c.1 c.2) ih)
      simp only [impl_Expand.l0, if_pos hlt, if_pos h0, hrd, in_eq, Option.bind_some, decide_eq_true c, if_true, if_pos ha2, ei]
    · rw [if_neg c]
      refine Ev.step (f := fun _ => some ([], 0, 0, false)) (fun k => ?_) (Ev.now _)
      simp only [impl_Expand.l0, if_pos hlt, if_pos h0, hrd, in_eq, Option.bind_some, decide_eq_false c, if_false, Bool.false_eq_true]
def expand (last step : Int) (l : List Int) : List Int × Int × Int × Bool := if okC last step = true ∧ l.length ≤ 300 then exL l last step [] else ([], 0, 0, false)
theorem expand_length (last step : Int) (l : List Int) : (expand last step l).1.length ≤ 300 := by
  unfold expand
  split
  · rename_i h
    have := exL_length l last step []
    simp at this
    omega
  · simp
theorem expand_impl (last step : Int) (l : List Int) : Ev (fun k => impl_Expand.f k last step l) (expand last step l) := by
  have e : ∀ k, impl_Expand.f k last step l = if okC last step = true then impl_Expand.j0 k l (decide ((l.length : Int) > 300)) last step else impl_Expand.j0 k l true last step := by
    intro k
    unfold impl_Expand.f
    rw [coder_impl]
    rfl
  refine Ev.congr e ?_
  unfold expand
  by_cases c : okC last step = true
  · simp only [if_pos c, c, true_and]
    by_cases d : l.length ≤ 300
    · have hd : ¬ (l.length : Int) > 300 := by omega
      rw [if_pos d]
      refine Ev.step (fun k => ?_) (ex_impl l d l 0 last step [] (by omega) rfl (okC_iff c).1 (okC_iff c).2 (by simp))
      simp only [impl_Expand.j0, decide_eq_false hd, Bool.false_eq_true, if_false, if_true]
    · have hd : (l.length : Int) > 300 := by omega
      rw [if_neg d]
      refine Ev.step (f := fun _ => some ([], 0, 0, false)) (fun k => ?_) (Ev.now _)
      simp only [impl_Expand.j0, decide_eq_true hd, if_true]
  · simp only [if_neg c]
    rw [if_neg (by simp [c])]
    refine Ev.step (f := fun _ => some ([], 0, 0, false)) (fun k => ?_) (Ev.now _)
    simp only [impl_Expand.j0, if_true]

theorem byte_opsI : ∀ b : Fin 256, impl_OfFrame.n1 (b.val : Int) = (b.val : Int) / 16 ∧ impl_OfFrame.n2 (b.val : Int) = (b.val : Int) % 16 := by decide +kernel
theorem byte_opI (b : Int) (h : 0 ≤ b ∧ b ≤ 255) : impl_OfFrame.n1 b = b / 16 ∧ impl_OfFrame.n2 b = b % 16 := by
  obtain ⟨n, rfl⟩ := Int.eq_ofNat_of_zero_le h.1
  exact byte_opsI ⟨n, by omega⟩
/-- The numbers of a frame's bytes. -/
def nums : List Int → List Int
  | [] => []
  | b :: r => b / 16 :: b % 16 :: nums r
theorem flat_nums (f g : Int → Int) : ∀ (l : List Int), (∀ b ∈ l, f b = b / 16 ∧ g b = b % 16) → (l.flatMap fun b => [f b, g b]) = nums l
  | [], _ => rfl
  | b :: r, h => by
    have h1 := h b (by simp)
    have h2 := flat_nums f g r (fun x hx => h x (by simp [hx]))
    simp only [List.flatMap_cons, h1.1, h1.2, h2, nums, List.cons_append, List.nil_append]
theorem ofI (a0 b0 : Int) (r : List Int) (hr : ∀ b ∈ b0 :: r, 0 ≤ b ∧ b ≤ 255) : Ev (fun k => impl_Expand.f k a0 (wrap64 (rd (b0 :: r) 0)) (((b0 :: r).drop 1).flatMap fun b => [impl_OfFrame.n1 b, impl_OfFrame.n2 b])) (expand a0 b0 (nums r)) := by
  have hb := hr b0 (by simp)
  have e1 : (((b0 :: r).drop 1).flatMap fun b => [impl_OfFrame.n1 b, impl_OfFrame.n2 b]) = nums r := flat_nums _ _ r (fun b hx => byte_opI b (hr b (by simp [hx])))
  have e2 : rd (b0 :: r) 0 = b0 := rfl
  rw [e1, e2, w64 (by omega)]
  exact expand_impl a0 b0 _

theorem in_impl (a b c : Int) : impl_in.f a b c = some (decide (b ≤ a) && decide (a ≤ c)) := by
  unfold impl_in.f
  by_cases q : a ≥ b
  · rw [if_pos q]; simp [q]
  · rw [if_neg q]; simp [q]
def inV (a b c : Int) : Bool := decide (b ≤ a) && decide (a ≤ c)
def pkV (t s : Int) : Bool := inV t 0 1000000000 && inV s 0 1000000

/-- The packets from number i on: each in order, each near enough. -/
def stFrom (l : List S44) (n : Int) : Nat → Int → Bool
  | 0, _ => true
  | d + 1, i => if pkV (rd_T44 l i).f0 (rd_T44 l i).f1 = true then (if inV (rd_T44 l i).f1 n (wrap64 ((wrap64 (n + 12)) - 1)) = true then (if i > 0 ∧ (rd_T44 l (i - 1)).f1 ≥ (rd_T44 l i).f1 then false else stFrom l n d (i + 1)) else false) else false
theorem st_impl (l : List S44) (hl : (l.length : Int) ≤ 1048576) (n a b c e : Int) (d : Nat) : ∀ i : Int, 0 ≤ i → (l.length : Int) - i = d →
    Ev (fun k => impl_PlayerOk.l0 k l (l.length : Int) i n a b c e l) (stFrom l n d i) := by
  induction d with
  | zero =>
    intro i h0 hd
    refine Ev.step (f := fun _ => some true) (fun k => ?_) (Ev.now _)
    simp only [impl_PlayerOk.l0]
    rw [if_neg (by omega)]
  | succ d ih =>
    intro i h0 hd
    have ei : wrap64 (i + 1) = i + 1 := w64 (by omega)
    have em : wrap64 (i - 1) = i - 1 := w64 (by omega)
    have IH := ih (i + 1) (by omega) (by omega)
    unfold stFrom
    by_cases c1 : pkV (rd_T44 l i).f0 (rd_T44 l i).f1 = true
    · have e1 : ∀ q0 q1 q2 q3 q4 q5 q6 q7 q8 q9 q10 q11 q12 q13 q14 q15, impl_packetOk.f (rd_T44 l i).f0 (rd_T44 l i).f1 q0 q1 q2 q3 q4 q5 q6 q7 q8 q9 q10 q11 q12 q13 q14 q15 = some true := by
        intros
        have c1' := c1
        unfold pkV inV at c1'
        simp only [impl_packetOk.f, in_impl, Option.bind_some]
        simp only [Bool.and_eq_true] at c1'
        simp [c1']
      rw [if_pos c1]
      by_cases c2 : inV (rd_T44 l i).f1 n (wrap64 ((wrap64 (n + 12)) - 1)) = true
      · have e2 : impl_in.f (rd_T44 l i).f1 n (wrap64 ((wrap64 (n + 12)) - 1)) = some true := (in_impl _ _ _).trans (congrArg some c2)
        rw [if_pos c2]
        by_cases c3 : i > 0
        · by_cases c4 : (rd_T44 l (i - 1)).f1 ≥ (rd_T44 l i).f1
          · rw [if_pos ⟨c3, c4⟩]
            refine Ev.step (f := fun _ => some false) (fun k => ?_) (Ev.now _)
            simp only [impl_PlayerOk.l0]
            rw [if_pos (by omega), if_pos h0, if_pos (by omega)]
            simp only [e1, e2, Option.bind_some, if_true, em]
            rw [if_pos c3, if_pos (by omega), if_pos (by omega), if_pos c4]
          · rw [if_neg (by omega)]
            refine Ev.step (fun k => ?_) IH
            simp only [impl_PlayerOk.l0]
            rw [if_pos (by omega), if_pos h0, if_pos (by omega)]
            simp only [e1, e2, Option.bind_some, if_true, em, ei]
            rw [if_pos c3, if_pos (by omega), if_pos (by omega), if_neg c4]
        · rw [if_neg (by omega)]
          refine Ev.step (fun k => ?_) IH
          simp only [impl_PlayerOk.l0]
          rw [if_pos (by omega), if_pos h0, if_pos (by omega)]
          simp only [e1, e2, Option.bind_some, if_true, ei]
          rw [if_neg c3]
      · have e2 : impl_in.f (rd_T44 l i).f1 n (wrap64 ((wrap64 (n + 12)) - 1)) = some false := (in_impl _ _ _).trans (congrArg some (by simpa [inV] using c2))
        rw [if_neg c2]
        refine Ev.step (f := fun _ => some false) (fun k => ?_) (Ev.now _)
        simp only [impl_PlayerOk.l0]
        rw [if_pos (by omega), if_pos h0, if_pos (by omega)]
        simp only [e1, e2, Option.bind_some, if_true, Bool.false_eq_true, if_false]
    · have e1 : ∀ q0 q1 q2 q3 q4 q5 q6 q7 q8 q9 q10 q11 q12 q13 q14 q15, impl_packetOk.f (rd_T44 l i).f0 (rd_T44 l i).f1 q0 q1 q2 q3 q4 q5 q6 q7 q8 q9 q10 q11 q12 q13 q14 q15 = some false := by
        intros
        have c1' := c1
        unfold pkV inV at c1'
        simp only [impl_packetOk.f, in_impl, Option.bind_some]
        by_cases z : (decide (0 ≤ (rd_T44 l i).f0) && decide ((rd_T44 l i).f0 ≤ 1000000000)) = true
        · rw [if_pos z]; rw [z] at c1'; simpa using c1'
        · rw [if_neg z]
      rw [if_neg c1]
      refine Ev.step (f := fun _ => some false) (fun k => ?_) (Ev.now _)
      simp only [impl_PlayerOk.l0]
      rw [if_pos (by omega), if_pos h0, if_pos (by omega)]
      simp only [e1, Option.bind_some, Bool.false_eq_true, if_false]
theorem st_grow (l : List S44) (n : Int) (h0 : 0 ≤ n) (h1 : n ≤ 1000000) : ∀ (d : Nat) (i : Int), 0 ≤ i → stFrom l n d i = true → (i > 0 → (rd_T44 l (i - 1)).f1 ≥ n + (i - 1)) → i + d ≤ 12 ∨ d = 0
  | 0, i, hi, _, _ => Or.inr rfl
  | d + 1, i, hi, h, hp => by
    unfold stFrom at h
    split at h
    · split at h
      · rename_i c2
        split at h
        · cases h
        · rename_i c3
          unfold inV at c2
          simp only [Bool.and_eq_true, decide_eq_true_eq] at c2
          rw [w64 (x := n + 12) (by omega), w64 (by omega)] at c2
          have hcur : (rd_T44 l i).f1 ≥ n + i := by
            by_cases q : i > 0
            · have := hp q
              omega
            · omega
          rcases st_grow l n h0 h1 d (i + 1) (by omega) h (fun _ => by rw [show i + 1 - 1 = i by omega]; exact hcur) with q | q
          · left; omega
          · left; omega
      · cases h
    · cases h
def playerV (n a b c e : Int) (l : List S44) : Bool := inV n 0 1000000 && (inV a 1 12 && (inV b 0 1000000000 && (inV c 0 1000000000 && (inV e (-32767) 32767 && stFrom l n l.length 0))))
theorem playerV_len {n a b c e : Int} {l : List S44} (h : playerV n a b c e l = true) : l.length ≤ 12 ∧ 1 ≤ a ∧ 0 ≤ n ∧ n ≤ 1000000 := by
  unfold playerV at h
  simp only [Bool.and_eq_true] at h
  obtain ⟨h1, h2, h3, h4, h5, h6⟩ := h
  unfold inV at h1 h2
  simp only [Bool.and_eq_true, decide_eq_true_eq] at h1 h2
  rcases st_grow l n h1.1 h1.2 l.length 0 (by omega) h6 (fun q => by omega) with q | q <;> omega
theorem player_impl (n a b c e : Int) (l : List S44) (hl : (l.length : Int) ≤ 1048576) : Ev (fun k => impl_PlayerOk.f k n a b c e l) (playerV n a b c e l) := by
  have J : Ev (fun k => impl_PlayerOk.j0 k true n a b c e l) false := Ev.step (f := fun _ => some false) (fun k => by simp only [impl_PlayerOk.j0, if_true]) (Ev.now _)
  by_cases cl : (l.length : Int) > 12
  · have hV : playerV n a b c e l = false := by
      cases q : playerV n a b c e l with
      | false => rfl
      | true => have := (playerV_len q).1; omega
    rw [hV]
    refine Ev.congr (f := fun k => impl_PlayerOk.j0 k true n a b c e l) (fun k => ?_) J
    unfold impl_PlayerOk.f
    simp only [in_impl, Option.bind_some, decide_eq_true cl, ite_self]
  · unfold playerV
    refine Ev.congr (fun k => by unfold impl_PlayerOk.f; simp only [in_impl, Option.bind_some, decide_eq_false cl]; rfl) ?_
    unfold inV
    by_cases c1 : (decide (0 ≤ n) && decide (n ≤ 1000000)) = true
    · simp only [c1, Bool.true_and, if_true]
      by_cases c2 : (decide (1 ≤ a) && decide (a ≤ 12)) = true
      · simp only [c2, Bool.true_and, if_true]
        by_cases c3 : (decide (0 ≤ b) && decide (b ≤ 1000000000)) = true
        · simp only [c3, Bool.true_and, if_true]
          by_cases c4 : (decide (0 ≤ c) && decide (c ≤ 1000000000)) = true
          · simp only [c4, Bool.true_and, if_true]
            by_cases c5 : (decide (-32767 ≤ e) && decide (e ≤ 32767)) = true
            · simp only [c5, Bool.true_and, if_true]
              refine Ev.step (fun k => ?_) (st_impl l hl n a b c e l.length 0 (by omega) (by omega))
              simp only [impl_PlayerOk.j0, Bool.false_eq_true, if_false]
            · simp only [c5, Bool.false_and, Bool.false_eq_true, if_false]; exact J
          · simp only [c4, Bool.false_and, Bool.false_eq_true, if_false]; exact J
        · simp only [c3, Bool.false_and, Bool.false_eq_true, if_false]; exact J
      · simp only [c2, Bool.false_and, Bool.false_eq_true, if_false]; exact J
    · simp only [c1, Bool.false_and, Bool.false_eq_true, if_false]; exact J
theorem exL_ok : ∀ (r : List Int) (last step : Int) (acc : List Int), (∀ n ∈ r, 0 ≤ n ∧ n ≤ 15) →
    (exL r last step acc).2.2.2 = true ∧ (exL r last step acc).1.length = acc.length + r.length ∧ ((∀ x ∈ acc, -32767 ≤ x ∧ x ≤ 32767) → ∀ x ∈ (exL r last step acc).1, -32767 ≤ x ∧ x ≤ 32767)
  | [], last, step, acc, _ => by simp [exL]
  | n :: r, last, step, acc, h => by
    have hn := h n (by simp)
    have ih := exL_ok r (nextLast last step n) (nextStep step n) (acc ++ [nextLast last step n]) (fun x hx => h x (by simp [hx]))
    unfold exL
    rw [if_pos hn]
    refine ⟨ih.1, by rw [ih.2.1]; simp; omega, fun ha => ih.2.2 (fun x hx => ?_)⟩
    rcases List.mem_append.mp hx with hx | hx
    · exact ha x hx
    · obtain rfl := List.mem_singleton.mp hx
      exact (next_bound last step n).1
theorem nums_ok : ∀ (l : List Int), (∀ b ∈ l, 0 ≤ b ∧ b ≤ 255) → ∀ n ∈ nums l, 0 ≤ n ∧ n ≤ 15
  | [], _ => by simp [nums]
  | b :: r, h => by
    have hb := h b (by simp)
    have ih := nums_ok r (fun x hx => h x (by simp [hx]))
    intro n hn
    simp only [nums, List.mem_cons] at hn
    rcases hn with rfl | rfl | hn
    · omega
    · omega
    · exact ih n hn
theorem nums_len : ∀ (l : List Int), (nums l).length = 2 * l.length
  | [] => rfl
  | b :: r => by simp only [nums, List.length_cons, nums_len r]; omega
def bytes (f : S39) : List Int := [f.f0, f.f1, f.f2, f.f3, f.f4, f.f5, f.f6, f.f7, f.f8, f.f9, f.f10, f.f11, f.f12, f.f13, f.f14, f.f15]
/-- A frame that can be played, at a level: 30 levels. -/
theorem frame_ok (last : Int) (f : S39) (hl : -32767 ≤ last ∧ last ≤ 32767) (h0 : f.f0 ≤ 48) (hb : ∀ b ∈ bytes f, 0 ≤ b ∧ b ≤ 255) :
    ∃ out a b, Ev (fun k => impl_OfFrame.f k last f.f0 f.f1 f.f2 f.f3 f.f4 f.f5 f.f6 f.f7 f.f8 f.f9 f.f10 f.f11 f.f12 f.f13 f.f14 f.f15) (out, a, b, true) ∧ out.length = 30 ∧ ∀ x ∈ out, -32767 ≤ x ∧ x ≤ 32767 := by
  have e := ofI last f.f0 [f.f1, f.f2, f.f3, f.f4, f.f5, f.f6, f.f7, f.f8, f.f9, f.f10, f.f11, f.f12, f.f13, f.f14, f.f15] hb
  have hn := nums_ok [f.f1, f.f2, f.f3, f.f4, f.f5, f.f6, f.f7, f.f8, f.f9, f.f10, f.f11, f.f12, f.f13, f.f14, f.f15] (fun b hx => hb b (List.mem_cons_of_mem _ hx))
  have hs := hb f.f0 (List.mem_cons_self ..)
  have hc : okC last f.f0 = true := by simp [okC]; omega
  have hx : expand last f.f0 (nums [f.f1, f.f2, f.f3, f.f4, f.f5, f.f6, f.f7, f.f8, f.f9, f.f10, f.f11, f.f12, f.f13, f.f14, f.f15]) = exL (nums [f.f1, f.f2, f.f3, f.f4, f.f5, f.f6, f.f7, f.f8, f.f9, f.f10, f.f11, f.f12, f.f13, f.f14, f.f15]) last f.f0 [] := by
    unfold expand
    rw [if_pos ⟨hc, by rw [nums_len]; simp⟩]
  rw [hx] at e
  obtain ⟨o1, o2, o3⟩ := exL_ok _ last f.f0 [] hn
  generalize exL (nums [f.f1, f.f2, f.f3, f.f4, f.f5, f.f6, f.f7, f.f8, f.f9, f.f10, f.f11, f.f12, f.f13, f.f14, f.f15]) last f.f0 [] = R at e o1 o2 o3
  obtain ⟨out, a, b, ok⟩ := R
  obtain rfl : ok = true := o1
  exact ⟨out, a, b, e, by rw [o2, nums_len]; rfl, o3 (by simp)⟩
theorem own_eq (n a b c e : Int) (l : List S44) (h : l.length < 4398046511104) : impl_ownPlayer.f n a b c e l = some (n, a, b, c, e, l) := by
  unfold impl_ownPlayer.f impl_Packet.f
  rw [if_pos h]
  rfl
theorem bs_nil (s : Int) : Ev (fun k => impl_Packet_int.f k [] s) (0, false) := by
  refine Ev.step (f := fun _ => some (0, false)) (fun k => ?_) (Ev.now _)
  simp [impl_Packet_int.f, impl_Packet_int.l0]
theorem bs_one (K : S44) (s : Int) (h : K.f1 = s) : Ev (fun k => impl_Packet_int.f k [K] s) (0, true) := by
  have e0 : wrap64 ((IntKind.u64.wrap (wrap64 (0 + ((1 : Nat) : Int)))) / 2) = 0 := by decide +kernel
  have e1 : rd_T44 [K] 0 = K := rfl
  have e2 : wrap64 (K.f1 - s) = 0 := by rw [h, Int.sub_self]; decide +kernel
  refine Ev.step (f := fun k => impl_Packet_int.l0 k [K] s 1 0 0) (fun k => ?_) (Ev.step (f := fun _ => some (0, true)) (fun k => ?_) (Ev.now _))
  · simp only [impl_Packet_int.f, impl_Packet_int.l0, List.length_cons, List.length_nil, Nat.zero_add]
    rw [if_pos (by decide), e0, if_pos (by decide), if_pos (by decide)]
    simp only [e1, impl_Put_1.f, e2, Option.bind_some]
    rw [if_neg (by decide)]
    rfl
  · simp only [impl_Packet_int.l0, List.length_cons, List.length_nil]
    rw [if_neg (by decide), if_pos (by decide), if_pos (by decide), if_pos (by decide)]
    simp only [e1, impl_Put_1.f, e2, Option.bind_some]
    rfl
theorem pok_impl (K : S44) (h0 : 0 ≤ K.f0 ∧ K.f0 ≤ 1000000000) (h1 : 0 ≤ K.f1 ∧ K.f1 ≤ 1000000) : impl_packetOk.f K.f0 K.f1 K.f2.f0 K.f2.f1 K.f2.f2 K.f2.f3 K.f2.f4 K.f2.f5 K.f2.f6 K.f2.f7 K.f2.f8 K.f2.f9 K.f2.f10 K.f2.f11 K.f2.f12 K.f2.f13 K.f2.f14 K.f2.f15 = some true := by
  simp [impl_packetOk.f, in_impl, h0, h1]
theorem one_player (n late v : Int) (K : S44) (hn : 0 ≤ n ∧ n ≤ 900000) (hl : 0 ≤ late ∧ late ≤ 1000000000) (hv : -32767 ≤ v ∧ v ≤ 32767) (h0 : 0 ≤ K.f0 ∧ K.f0 ≤ 1000000000) (h1 : K.f1 = n) : playerV n 1 late 0 v [K] = true := by
  have e1 : rd_T44 [K] 0 = K := rfl
  have e2 : wrap64 ((wrap64 (n + 12)) - 1) = n + 11 := by rw [w64 (x := n + 12) (by omega), w64 (by omega)]; omega
  have hk : pkV K.f0 K.f1 = true := by simp [pkV, inV, h0]; omega
  have hi : inV K.f1 n (n + 11) = true := by simp [inV, h1]; omega
  have hs : stFrom [K] n 1 0 = true := by
    unfold stFrom
    rw [e1, if_pos hk, e2, if_pos hi, if_neg (by omega)]
    rfl
  have e : (inV n 0 1000000 = true) ∧ (inV late 0 1000000000 = true) ∧ (inV v (-32767) 32767 = true) := by simp [inV]; omega
  unfold playerV
  rw [e.1, e.2.1, e.2.2, show ([K] : List S44).length = 1 from rfl, hs]
  decide
/-- Put of a packet that is the next. -/
theorem put_next (n late v : Int) (K : S44) (hn : 0 ≤ n ∧ n ≤ 900000) (hl : 0 ≤ late ∧ late < 1000000000) (hv : -32767 ≤ v ∧ v ≤ 32767) (h0 : 0 ≤ K.f0 ∧ K.f0 ≤ 1000000000) (h1 : K.f1 = n) :
    Ev (fun k => impl_Put.f k n 1 late 0 v [] K.f0 K.f1 K.f2.f0 K.f2.f1 K.f2.f2 K.f2.f3 K.f2.f4 K.f2.f5 K.f2.f6 K.f2.f7 K.f2.f8 K.f2.f9 K.f2.f10 K.f2.f11 K.f2.f12 K.f2.f13 K.f2.f14 K.f2.f15) (n, 1, late, 0, v, [K], true) := by
  have hp : playerV n 1 late 0 v [] = true := by simp [playerV, inV, stFrom, hn.1, hl.1, hv]; omega
  have hP := player_impl n 1 late 0 v [] (by simp)
  rw [hp] at hP
  have hpk := pok_impl K h0 (by omega)
  have hin : impl_in.f K.f1 n (wrap64 ((wrap64 (n + 12)) - 1)) = some true := by
    rw [in_impl, w64 (x := n + 12) (by omega), w64 (by omega), h1]; simp; omega
  unfold impl_Put.f
  refine Ev.congr (fun k => by rw [own_eq _ _ _ _ _ _ (by decide), Option.bind_some]) (Ev.bind hP ?_)
  simp only [if_true]
  refine Ev.congr (fun k => by rw [hpk, Option.bind_some]) ?_
  simp only [if_true]
  have el : (late == 1000000000) = false := by simp; omega
  simp only [el]
  refine Ev.step (f := fun k => (impl_Packet_int.f k [] K.f1).bind fun bt => if bt.2 = true then some (n, 1, wrap64 (late + 1), 0, v, [], true) else (impl_in.f K.f1 n (wrap64 ((wrap64 (n + 12)) - 1))).bind fun t => if t = true then (if Ins.Room ([] : List S44) bt.1 then some (n, 1, late, 0, v, Ins.put [] bt.1 K, true) else none) else some (n, 1, wrap64 (late + 1), 0, v, [], true)) (fun k => by simp only [impl_Put.j0, Bool.false_eq_true, if_false]) (Ev.bind (bs_nil K.f1) ?_)
  simp only [Bool.false_eq_true, if_false]
  refine Ev.congr (fun k => by rw [hin, Option.bind_some]) ?_
  simp only [if_true]
  rw [if_pos (show Ins.Room ([] : List S44) 0 by simp [Ins.Room])]
  exact Ev.now _
/-- .. of one that is there. -/
theorem put_again (n late v : Int) (K : S44) (hn : 0 ≤ n ∧ n ≤ 900000) (hl : 0 ≤ late ∧ late < 900000000) (hv : -32767 ≤ v ∧ v ≤ 32767) (h0 : 0 ≤ K.f0 ∧ K.f0 ≤ 1000000000) (h1 : K.f1 = n) :
    Ev (fun k => impl_Put.f k n 1 late 0 v [K] K.f0 K.f1 K.f2.f0 K.f2.f1 K.f2.f2 K.f2.f3 K.f2.f4 K.f2.f5 K.f2.f6 K.f2.f7 K.f2.f8 K.f2.f9 K.f2.f10 K.f2.f11 K.f2.f12 K.f2.f13 K.f2.f14 K.f2.f15) (n, 1, late + 1, 0, v, [K], true) := by
  have hP := player_impl n 1 late 0 v [K] (by simp)
  rw [one_player n late v K hn ⟨hl.1, by omega⟩ hv h0 h1] at hP
  have hpk := pok_impl K h0 (by omega)
  unfold impl_Put.f
  refine Ev.congr (fun k => by rw [own_eq _ _ _ _ _ _ (by simp), Option.bind_some]) (Ev.bind hP ?_)
  simp only [if_true]
  refine Ev.congr (fun k => by rw [hpk, Option.bind_some]) ?_
  simp only [if_true]
  have el : (late == 1000000000) = false := by simp; omega
  simp only [el]
  refine Ev.step (f := fun k => (impl_Packet_int.f k [K] K.f1).bind fun bt => if bt.2 = true then some (n, 1, wrap64 (late + 1), 0, v, [K], true) else (impl_in.f K.f1 n (wrap64 ((wrap64 (n + 12)) - 1))).bind fun t => if t = true then (if Ins.Room ([K] : List S44) bt.1 then some (n, 1, late, 0, v, Ins.put [K] bt.1 K, true) else none) else some (n, 1, wrap64 (late + 1), 0, v, [K], true)) (fun k => by simp only [impl_Put.j0, Bool.false_eq_true, if_false]) (Ev.bind (bs_one K K.f1 rfl) ?_)
  simp only [if_true]
  rw [w64 (by omega)]
  exact Ev.now _
/-- Play of a player that has the next one, and it alone. -/
theorem play_one (n late v : Int) (K : S44) (out : List Int) (x y : Int) (hn : 0 ≤ n ∧ n ≤ 900000) (hl : 0 ≤ late ∧ late ≤ 1000000000) (hv : -32767 ≤ v ∧ v ≤ 32767) (h0 : 0 ≤ K.f0 ∧ K.f0 ≤ 1000000000) (h1 : K.f1 = n)
    (ho : Ev (fun k => impl_OfFrame.f k v K.f2.f0 K.f2.f1 K.f2.f2 K.f2.f3 K.f2.f4 K.f2.f5 K.f2.f6 K.f2.f7 K.f2.f8 K.f2.f9 K.f2.f10 K.f2.f11 K.f2.f12 K.f2.f13 K.f2.f14 K.f2.f15) (out, x, y, true)) (h30 : out.length = 30) :
    Ev (fun k => impl_Play.f k n 1 late 0 v [K]) (n + 1, 1, late, 0, rd out 29, [], out, true) := by
  have hP := player_impl n 1 late 0 v [K] (by simp)
  rw [one_player n late v K hn hl hv h0 h1] at hP
  unfold impl_Play.f
  refine Ev.congr (fun k => by rw [own_eq _ _ _ _ _ _ (by simp), Option.bind_some]) (Ev.bind hP ?_)
  simp only [if_true]
  simp only [if_neg (show ¬ n = 1000000 by omega)]
  have e0 : ((0 : Int) == 1000000000) = false := by decide
  have ec : ((rd_T44 [K] 0).f1 == n) = true := beq_iff_eq.mpr h1
  simp only [e0]
  refine Ev.step (f := fun k => impl_Play.j1 k [] false true n 1 late 0 v [K]) (fun k => ?_) ?_
  · simp only [impl_Play.j0, Bool.false_eq_true, if_false, List.length_cons, List.length_nil, ec]
    rw [if_pos (by decide), if_pos (by decide)]
  refine Ev.step (f := fun k => (impl_OfFrame.f k v K.f2.f0 K.f2.f1 K.f2.f2 K.f2.f3 K.f2.f4 K.f2.f5 K.f2.f6 K.f2.f7 K.f2.f8 K.f2.f9 K.f2.f10 K.f2.f11 K.f2.f12 K.f2.f13 K.f2.f14 K.f2.f15).bind fun bt => impl_Play.j2 k bt.1 bt.2.2.2 n 1 late 0 v []) (fun k => ?_) (Ev.bind ho ?_)
  · simp only [impl_Play.j1, if_true, List.length_cons, List.length_nil]
    rw [if_pos (by decide)]
    congr 1
  · refine Ev.step (f := fun _ => some (n + 1, 1, late, 0, rd out 29, [], out, true)) (fun k => ?_) (Ev.now _)
    simp only [impl_Play.j2, if_true]
    rw [if_pos (by omega), w64 (by omega)]

theorem frames_at (l : List Int) (n : Nat) (i : Int) (h0 : 0 ≤ i) (h1 : i < n) : rd_T44 ((List.range n).map fun i : Nat => laws_frames.pk l (i : Int)) i = laws_frames.pk l i := by
  obtain ⟨j, rfl⟩ := Int.eq_ofNat_of_zero_le h0
  have hj : j < n := by omega
  simp [rd_T44, List.getD_eq_getElem?_getD, List.getElem?_map, List.getElem?_range hj]
theorem byteW {x : Int} (h : (Lit.int .u8 x).wf = true) : 0 ≤ x ∧ x ≤ 255 := by
  simp [Lit.wf, IntKind.min, IntKind.max, IntKind.signed, IntKind.bits] at h
  omega
theorem at_nn (l : List Int) (hw : ∀ x ∈ l, (Lit.int .u8 x).wf = true) (x : Int) (h0 : 0 ≤ x) (h1 : x ≤ 1000000000) (hl : l.length ≤ 1048576) : ∃ v, laws_at.f l x = some v ∧ 0 ≤ v ∧ v ≤ 255 := by
  unfold laws_at.f
  by_cases c : x < (l.length : Int)
  · rw [if_pos c, if_pos h0]
    have hm : rd l x ∈ l := by
      have := rd_at l x h0 c
      exact List.mem_of_getElem? this
    have hb := byteW (hw _ hm)
    exact ⟨_, rfl, by rw [w64 (by omega)]; exact hb⟩
  · rw [if_neg c]
    refine ⟨_, rfl, ?_⟩
    rw [w64 (x := x * 7) (by omega), w64 (by omega), Int.tmod_eq_emod_of_nonneg (by omega)]
    omega
theorem pk_ok (l : List Int) (hw : ∀ x ∈ l, (Lit.int .u8 x).wf = true) (hl : l.length ≤ 1048576) (i : Int) (h0 : 0 ≤ i) (h1 : i ≤ 1000) :
    (laws_frames.pk l i).f0 = 30 * i ∧ (laws_frames.pk l i).f1 = i ∧ (laws_frames.pk l i).f2.f0 ≤ 48 ∧ ∀ b ∈ bytes (laws_frames.pk l i).f2, 0 ≤ b ∧ b ≤ 255 := by
  have hb : ∀ x, 0 ≤ laws_frames.b l x ∧ laws_frames.b l x ≤ 255 := fun x => by unfold laws_frames.b; omega
  obtain ⟨v, hv, hv0, hv1⟩ := at_nn l hw i h0 (by omega) hl
  have hb0 : 0 ≤ laws_frames.b0 l i ∧ laws_frames.b0 l i ≤ 48 := by
    unfold laws_frames.b0
    rw [hv, Option.getD_some, Int.tmod_eq_emod_of_nonneg hv0]
    omega
  refine ⟨rfl, rfl, hb0.2, fun b hx => ?_⟩
  simp only [bytes, laws_frames.pk, List.mem_cons, List.not_mem_nil, or_false] at hx
  rcases hx with rfl | rfl | rfl | rfl | rfl | rfl | rfl | rfl | rfl | rfl | rfl | rfl | rfl | rfl | rfl | rfl
  · omega
  all_goals exact hb _
theorem same_ev (l : List Int) (hl : l.length ≤ 1000) : Ev (fun k => laws_sameInts.f k l l) true := by
  refine Ev.congr (f := fun k => laws_sameInts.l0 k l l 0) (fun k => by unfold laws_sameInts.f; rw [if_pos rfl]) ?_
  have key : ∀ (d : Nat) (i : Int), 0 ≤ i → (l.length : Int) - i = d → Ev (fun k => laws_sameInts.l0 k l l i) true := by
    intro d
    induction d with
    | zero =>
      intro i h0 hd
      refine Ev.step (f := fun _ => some true) (fun k => ?_) (Ev.now _)
      simp only [laws_sameInts.l0]
      rw [if_neg (by omega)]
    | succ d ih =>
      intro i h0 hd
      refine Ev.step (fun k => ?_) (ih (i + 1) (by omega) (by omega))
      simp only [laws_sameInts.l0]
      rw [if_pos (by omega), if_pos h0, if_pos (by omega), w64 (by omega)]
      simp
  exact key l.length 0 (by omega) (by omega)
theorem rd_mem (l : List Int) (i : Int) (h0 : 0 ≤ i) (h1 : i < l.length) : rd l i ∈ l := List.mem_of_getElem? (rd_at l i h0 h1)
theorem rounds_ev (l : List Int) (hw : ∀ x ∈ l, (Lit.int .u8 x).wf = true) (hl : l.length ≤ 1048576) (n : Nat) (hn : n ≤ 100) (L : List S44) (hL : L = (List.range n).map fun i : Nat => laws_frames.pk l (i : Int)) :
    ∀ (d : Nat) (i late v : Int), 0 ≤ i → (n : Int) - i = d → (0 ≤ late ∧ late ≤ i) → (-32767 ≤ v ∧ v ≤ 32767) →
    Ev (fun k => laws_FnTwice.l0 k l L late i i 1 0 0 v [] i 1 late 0 v []) true := by
  have hLl : L.length = n := by rw [hL]; simp
  intro d
  induction d with
  | zero =>
    intro i late v h0 hd hla hv
    refine Ev.step (f := fun _ => some true) (fun k => ?_) (Ev.now _)
    simp only [laws_FnTwice.l0]
    rw [if_neg (by omega)]
    simp
  | succ d ih =>
    intro i late v h0 hd hla hv
    have hi : i < n := by omega
    have hK : rd_T44 L i = laws_frames.pk l i := by rw [hL]; exact frames_at l n i h0 hi
    obtain ⟨k0, k1, k2, k3⟩ := pk_ok l hw hl i h0 (by omega)
    obtain ⟨out, a, b, ho, h30, hob⟩ := frame_ok v (laws_frames.pk l i).f2 hv k2 k3
    obtain ⟨va, hva, _, _⟩ := at_nn l hw i h0 (by omega) hl
    generalize laws_frames.pk l i = K at hK k0 k1 k2 k3 ho
    have p1 := put_next i 0 v K (by omega) (by omega) hv (by omega) k1
    have p2 := put_next i late v K (by omega) (by omega) hv (by omega) k1
    have p3 := put_again i late v K (by omega) (by omega) hv (by omega) k1
    have q1 := play_one i 0 v K out a b (by omega) (by omega) hv (by omega) k1 ho h30
    have hq : ∀ lt, 0 ≤ lt ∧ lt ≤ 1000 → Ev (fun k => impl_Play.f k i 1 lt 0 v [K]) (i + 1, 1, lt, 0, rd out 29, [], out, true) := fun lt hlt => play_one i lt v K out a b (by omega) (by omega) hv (by omega) k1 ho h30
    have hr := hob _ (rd_mem out 29 (by decide) (by omega))
    have hse := same_ev out (by omega)
    -- what is played
    have J3 : ∀ lt, 0 ≤ lt ∧ lt ≤ i + 1 → Ev (fun k => laws_FnTwice.j3 k l L lt i false (i + 1) 1 0 0 (rd out 29) [] (i + 1) 1 lt 0 (rd out 29) []) true := fun lt hlt => by
      refine Ev.step (fun k => ?_) (ih (i + 1) lt (rd out 29) (by omega) (by omega) (by omega) hr)
      simp only [laws_FnTwice.j3, Bool.false_eq_true, if_false]
      rw [w64 (by omega)]
    have e30 : ((out.length : Int) != 30) = false := by simp; omega
    have J2 : ∀ lt, 0 ≤ lt ∧ lt ≤ i + 1 → Ev (fun k => laws_FnTwice.j2 k l L lt i true i 1 0 0 v [K] i 1 lt 0 v [K]) true := fun lt hlt => by
      refine Ev.step (fun k => by simp only [laws_FnTwice.j2, if_true]; rfl) (Ev.bind q1 (Ev.bind (hq lt (by omega)) ?_))
      simp only [if_true]
      refine Ev.bind hse ?_
      simp only [if_true, e30]
      exact J3 lt hlt
    have J1 : Ev (fun k => laws_FnTwice.j1 k l L late i true false i 1 0 0 v [K] i 1 late 0 v [K]) true := by
      by_cases c : Int.tmod va 2 = 0
      · refine Ev.step (f := fun k => (impl_Put.f k i 1 late 0 v [K] K.f0 K.f1 K.f2.f0 K.f2.f1 K.f2.f2 K.f2.f3 K.f2.f4 K.f2.f5 K.f2.f6 K.f2.f7 K.f2.f8 K.f2.f9 K.f2.f10 K.f2.f11 K.f2.f12 K.f2.f13 K.f2.f14 K.f2.f15).bind fun bt223 => (laws_FnTwice.j2 k l L (wrap64 (late + 1)) i bt223.2.2.2.2.2.2 i 1 0 0 v [K] bt223.1 bt223.2.1 bt223.2.2.1 bt223.2.2.2.1 bt223.2.2.2.2.1 bt223.2.2.2.2.2.1)) (fun k => ?_) (Ev.bind p3 ?_)
        · simp only [laws_FnTwice.j1, Bool.false_eq_true, if_false, hva, Option.bind_some]
          rw [if_pos c, if_pos h0, if_pos (by omega), hK]
        · rw [w64 (by omega)]
          exact J2 (late + 1) (by omega)
      · refine Ev.step (fun k => ?_) (J2 late (by omega))
        simp only [laws_FnTwice.j1, Bool.false_eq_true, if_false, hva, Option.bind_some]
        rw [if_neg c]
    refine Ev.step (f := fun k => (impl_Put.f k i 1 0 0 v [] K.f0 K.f1 K.f2.f0 K.f2.f1 K.f2.f2 K.f2.f3 K.f2.f4 K.f2.f5 K.f2.f6 K.f2.f7 K.f2.f8 K.f2.f9 K.f2.f10 K.f2.f11 K.f2.f12 K.f2.f13 K.f2.f14 K.f2.f15).bind fun bt200 => ((impl_Put.f k i 1 late 0 v [] K.f0 K.f1 K.f2.f0 K.f2.f1 K.f2.f2 K.f2.f3 K.f2.f4 K.f2.f5 K.f2.f6 K.f2.f7 K.f2.f8 K.f2.f9 K.f2.f10 K.f2.f11 K.f2.f12 K.f2.f13 K.f2.f14 K.f2.f15).bind fun bt211 => (if bt200.2.2.2.2.2.2 = true then (laws_FnTwice.j1 k l L late i bt211.2.2.2.2.2.2 (!bt211.2.2.2.2.2.2) bt200.1 bt200.2.1 bt200.2.2.1 bt200.2.2.2.1 bt200.2.2.2.2.1 bt200.2.2.2.2.2.1 bt211.1 bt211.2.1 bt211.2.2.1 bt211.2.2.2.1 bt211.2.2.2.2.1 bt211.2.2.2.2.2.1) else (laws_FnTwice.j1 k l L late i bt211.2.2.2.2.2.2 true bt200.1 bt200.2.1 bt200.2.2.1 bt200.2.2.2.1 bt200.2.2.2.2.1 bt200.2.2.2.2.2.1 bt211.1 bt211.2.1 bt211.2.2.1 bt211.2.2.2.1 bt211.2.2.2.2.1 bt211.2.2.2.2.2.1)))) (fun k => ?_) (Ev.bind p1 (Ev.bind p2 ?_))
    · simp only [laws_FnTwice.l0]
      rw [if_pos (by omega), if_pos h0, hK]
    · simp only [if_true, Bool.not_true]
      exact J1
theorem FnTwice : SFnTwice.Pure := by
  intro l hwm
  have hw := hwm.1
  apply Ev.rounds
  unfold laws_FnTwice.f
  by_cases c : (l.length : Int) > 1048576
  · refine Ev.congr (f := fun _ => some true) (fun k => ?_) (Ev.now _)
    simp only [laws_big.f, Option.bind_some, decide_eq_true c, if_true]
  · have hl : l.length ≤ 1048576 := by omega
    obtain ⟨va, hva, v0, v1⟩ := at_nn l hw 0 (by decide) (by decide) hl
    have hn : wrap64 (2 + Int.tmod va 9) = 2 + va % 9 := by rw [Int.tmod_eq_emod_of_nonneg v0]; exact w64 (by omega)
    refine Ev.congr (f := fun k => laws_FnTwice.l0 k l ((List.range (2 + va % 9).toNat).map fun i : Nat => laws_frames.pk l (i : Int)) 0 0 0 1 0 0 0 [] 0 1 0 0 0 []) (fun k => ?_) (rounds_ev l hw hl (2 + va % 9).toNat (by omega) _ rfl (2 + va % 9).toNat 0 0 0 (by decide) (by omega) (by decide) (by decide))
    simp only [laws_big.f, Option.bind_some, decide_eq_false c, Bool.false_eq_true, if_false, hva, hn]
    simp only [laws_frames.f]
    rw [if_pos (by omega)]
    rfl

end Go.Proofs.Ytbgdmbjipladoaa.Pure
