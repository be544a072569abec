/- Steady of the program and of the reference agree at every list of packets, and leave the list as it was. No condition. -/
import Derived.Test.YtbgdmbjipladoaaSFnExactSteady
set_option linter.unusedVariables false
set_option linter.unusedSimpArgs false
namespace Go.Proofs.Ytbgdmbjipladoaa.Pure
open Go.RowKit Go.Proofs.Ytbgdmbjipladoaa.PFnExactSteady Go.Proofs.Ytbgdmbjipladoaa.SFnExactSteady Go.Proofs.YtbgdmbjipladoaaW.PrintWords Go.Proofs.YtbgdmbjipladoaaW.PrintLast Go.Proofs.YtbgdmbjipladoaaW.PrintMore
theorem w64 {x : Int} (h : -9000000000000000000 ≤ x ∧ x ≤ 9000000000000000000) : wrap64 x = x := by unfold wrap64; omega
theorem rd_at (l : List Int) (i : Int) (h0 : 0 ≤ i) (h1 : i < l.length) : l[i.toNat]? = some (rd l i) := by
  simp [rd, List.getD_eq_getElem?_getD, List.getElem?_eq_getElem (show i.toNat < l.length by omega)]

theorem gen_to {α β : Type} (l : List α) (hl : (l.length : Int) ≤ 1048576) (F : Nat → List β → Int → Option (List β)) (g : Int → β)
    (hF : ∀ k m i, 0 ≤ i → i < (l.length : Int) → i < (m.length : Int) → F (k + 1) m i = F k (m.set i.toNat (g i)) (wrap64 (i + 1))) (hE : ∀ k m i, ¬ i < (l.length : Int) → F (k + 1) m i = some m)
    (G : α → β) (hg : ∀ (i : Nat) (h : i < l.length), g i = G l[i]) (d : Nat) : ∀ (i : Int) (m : List β), 0 ≤ i → i ≤ l.length → (l.length : Int) - i = d → m.length = l.length →
    (∀ j : Nat, (j : Int) < i → m[j]? = (l.map G)[j]?) → Ev (fun k => F k m i) (l.map G) := by
  induction d with
  | zero =>
    intro i m h0 h1 hd hm hp
    refine Ev.step (f := fun _ => some (l.map G)) (fun k => ?_) (Ev.now _)
    rw [hE k m i (by omega)]
    congr 1
    apply List.ext_getElem?
    intro j
    by_cases hj : j < l.length
    · exact hp j (by omega)
    · rw [List.getElem?_eq_none (by omega), List.getElem?_eq_none (by simp; omega)]
  | succ d ih =>
    intro i m h0 h1 hd hm hp
    have ei : wrap64 (i + 1) = i + 1 := w64 (by omega)
    refine Ev.step (fun k => ?_) (ih (i + 1) (m.set i.toNat (g i)) (by omega) (by omega) (by omega) (by simpa using hm) ?_)
    · rw [hF k m i h0 (by omega) (by omega), ei]
    · intro j hj
      by_cases e : j = i.toNat
      · subst e
        rw [List.getElem?_set_self (by omega), List.getElem?_map, List.getElem?_eq_getElem (show i.toNat < l.length by omega)]
        have := hg i.toNat (by omega)
        rw [Int.toNat_of_nonneg h0] at this
        rw [this]
        rfl
      · rw [List.getElem?_set_ne (by omega)]
        exact hp j (by omega)
theorem gen_eq {n : Nat} (hl : (n : Int) ≤ 1048576) (F : Nat → Int → Option Bool) (hF : ∀ k i, 0 ≤ i → i < (n : Int) → F (k + 1) i = F k (wrap64 (i + 1))) (hE : ∀ k i, ¬ i < (n : Int) → F (k + 1) i = some true)
    (d : Nat) : ∀ (i : Int), 0 ≤ i → i ≤ n → (n : Int) - i = d → Ev (fun k => F k i) true := by
  induction d with
  | zero =>
    intro i h0 h1 hd
    exact Ev.step (f := fun _ => some true) (fun k => hE k i (by omega)) (Ev.now _)
  | succ d ih =>
    intro i h0 h1 hd
    have ei : wrap64 (i + 1) = i + 1 := w64 (by omega)
    refine Ev.step (fun k => ?_) (ih (i + 1) (by omega) (by omega) (by omega))
    rw [hF k i h0 (by omega), ei]
theorem getD_at {α : Type} (l : List α) (z : α) (i : Nat) (h : i < l.length) : l.getD i z = l[i] := by simp [List.getD_eq_getElem?_getD, h]

def toK (x : S41) : S44 := ⟨x.f0, x.f1, x.f2⟩
theorem pk_to (x : S41) : laws_toPacket.f x.f0 x.f1 x.f2.f0 x.f2.f1 x.f2.f2 x.f2.f3 x.f2.f4 x.f2.f5 x.f2.f6 x.f2.f7 x.f2.f8 x.f2.f9 x.f2.f10 x.f2.f11 x.f2.f12 x.f2.f13 x.f2.f14 x.f2.f15 =
    some (x.f0, x.f1, x.f2.f0, x.f2.f1, x.f2.f2, x.f2.f3, x.f2.f4, x.f2.f5, x.f2.f6, x.f2.f7, x.f2.f8, x.f2.f9, x.f2.f10, x.f2.f11, x.f2.f12, x.f2.f13, x.f2.f14, x.f2.f15) := rfl
theorem pks_ev (l : List S41) (hl : (l.length : Int) ≤ 1048576) : Ev (fun k => laws_toPacketS.f k l) (l.map toK) := by
  refine Ev.congr (fun k => ?_) (gen_to l hl (fun k m i => laws_toPacketS.l0 k l m i) (fun i => toK (rd_T41 l i)) (fun k m i h0 h1 h2 => ?_) (fun k m i h => ?_) toK (fun i h => ?_) l.length 0 (List.replicate l.length z44) (by omega) (by omega) (by omega) (by simp) (fun j hj => by omega))
  · unfold laws_toPacketS.f
    rw [if_pos (by omega), if_pos (by omega)]
    rfl
  · simp only [laws_toPacketS.l0]
    rw [if_pos h1, if_pos h0]
    simp only [pk_to, Option.bind_some]
    rw [if_pos h2]
    rfl
  · simp only [laws_toPacketS.l0]
    rw [if_neg h]
  · show toK (l.getD i z41) = _
    rw [getD_at l z41 i h]
theorem eqPk_ev (l : List S44) (hl : (l.length : Int) ≤ 1048576) : Ev (fun k => laws_eqPacketS.f k l l) true := by
  refine Ev.congr (fun k => ?_) (gen_eq (n := l.length) hl (fun k i => laws_eqPacketS.l0 k l l i) (fun k i h0 h1 => ?_) (fun k i h => ?_) l.length 0 (by omega) (by omega) (by omega))
  · unfold laws_eqPacketS.f
    rw [if_pos rfl]
  · simp only [laws_eqPacketS.l0]
    rw [if_pos h1, if_pos h0, if_pos h1]
    simp only [laws_eqPacket.f, laws_eqByteA16.f, if_true, decide_true, Option.bind_some]
  · simp only [laws_eqPacketS.l0]
    rw [if_neg h]
theorem szPk {l : List S41} (h : ¬ wrap64 (1048576 - (l.length : Int)) < 0) (hm : l.length ≤ maxLen) : (l.length : Int) ≤ 1048576 := by unfold maxLen at hm; unfold wrap64 at h; omega
theorem in_spec (a b c : Int) : spec_l1In.f a b c = some (decide (b ≤ a) && decide (a ≤ c)) := by
  unfold spec_l1In.f
  by_cases q : a ≥ b
  · rw [if_pos q]; simp [q]
  · rw [if_neg q]; simp [q]
theorem in_impl (a b c : Int) : impl_in.f a b c = some (decide (b ≤ a) && decide (a ≤ c)) := by
  unfold impl_in.f
  by_cases q : a ≥ b
  · rw [if_pos q]; simp [q]
  · rw [if_neg q]; simp [q]
def inV (a b c : Int) : Bool := decide (b ≤ a) && decide (a ≤ c)
def pkV (t s : Int) : Bool := inV t 0 1000000000 && inV s 0 1000000

theorem tick_spec (a : Int) : spec_l4Tick.f a = some (inV a 0 1000000000) := by simp only [spec_l4Tick.f, in_spec, Option.bind_some]; rfl
theorem seq_spec (a : Int) : spec_l12Seq.f a = some (inV a 0 1000000) := by simp only [spec_l12Seq.f, in_spec, Option.bind_some]; rfl
theorem drop_rd (l : List S44) (i : Int) (h0 : 0 ≤ i) (h1 : i < (l.length : Int)) : l.drop i.toNat = rd_T44 l i :: l.drop (i + 1).toNat := by
  rw [List.drop_eq_getElem_cons (show i.toNat < l.length by omega)]
  congr 1
  · simp [rd_T44, List.getD_eq_getElem?_getD, List.getElem?_eq_getElem (show i.toNat < l.length by omega)]
  · congr 1; omega
theorem pk_spec (t : S44) : ∀ q0 q1 q2 q3 q4 q5 q6 q7 q8 q9 q10 q11 q12 q13 q14 q15, spec_l12Packet.f t.f0 t.f1 q0 q1 q2 q3 q4 q5 q6 q7 q8 q9 q10 q11 q12 q13 q14 q15 = some (stPk t) := by
  intros
  simp only [spec_l12Packet.f, tick_spec, seq_spec, Option.bind_some]
  unfold stPk inV
  by_cases z : (decide (0 ≤ t.f0) && decide (t.f0 ≤ 1000000000)) = true
  · rw [if_pos z, z, Bool.true_and]
  · rw [if_neg z]; rw [Bool.not_eq_true] at z; rw [z, Bool.false_and]
def lenOk (l : List S44) : Bool := decide (1 ≤ (l.length : Int)) && decide ((l.length : Int) ≤ 60)
theorem packets_ev (l : List S44) (hl : (l.length : Int) ≤ 1048576) (d : Nat) : ∀ i : Int, 0 ≤ i → (l.length : Int) - i = d →
    Ev (fun k => spec_l12Packets.l0 k l i) ((l.drop i.toNat).all stPk && lenOk l) := by
  induction d with
  | zero =>
    intro i h0 hd
    refine Ev.step (f := fun _ => some (lenOk l)) (fun k => ?_) ?_
    · simp only [spec_l12Packets.l0]
      rw [if_neg (by omega)]
      simp only [in_spec, Option.bind_some]
      rfl
    · rw [List.drop_eq_nil_iff.2 (by omega)]
      simp only [List.all_nil, Bool.true_and]
      exact Ev.now _
  | succ d ih =>
    intro i h0 hd
    have ei : wrap64 (i + 1) = i + 1 := w64 (by omega)
    rw [drop_rd l i h0 (by omega), List.all_cons]
    cases c : stPk (rd_T44 l i) with
    | true =>
      simp only [Bool.true_and]
      refine Ev.step (fun k => ?_) (ih (i + 1) (by omega) (by omega))
      simp only [spec_l12Packets.l0]
      rw [if_pos (by omega), if_pos h0]
      simp only [pk_spec, c, Option.bind_some, if_true, ei]
    | false =>
      simp only [Bool.false_and]
      refine Ev.step (f := fun _ => some false) (fun k => ?_) (Ev.now _)
      simp only [spec_l12Packets.l0]
      rw [if_pos (by omega), if_pos h0]
      simp only [pk_spec, c, Option.bind_some, Bool.false_eq_true, if_false]
theorem st_bad : ∀ (ts : List S44) (b : Bool) (seen : List Int) (lo hi tw : Int), ts.all stPk = false → stGo ts b seen lo hi tw = (-1, -1)
  | [], _, _, _, _, _, h => by simp at h
  | t :: ts, b, seen, lo, hi, tw, h => by
    unfold stGo
    split
    · rename_i c
      exact st_bad ts _ _ _ _ _ (by simpa [c] using h)
    · rfl
def agV (l : List S44) (i : Int) : Nat → Int → Bool → Bool
  | 0, _, b => b
  | d + 1, j, b => agV l i d (j + 1) (if b = true then true else (rd_T44 l j).f1 == (rd_T44 l i).f1)
theorem agV_iff (l : List S44) (i : Int) : ∀ (d : Nat) (j : Int) (b : Bool), agV l i d j b = true ↔ b = true ∨ ∃ m : Int, j ≤ m ∧ m < j + d ∧ (rd_T44 l m).f1 = (rd_T44 l i).f1
  | 0, j, b => by
    unfold agV
    constructor
    · intro h; exact Or.inl h
    · rintro (h | ⟨m, h1, h2, _⟩)
      · exact h
      · omega
  | d + 1, j, b => by
    unfold agV
    rw [agV_iff l i d (j + 1)]
    constructor
    · rintro (h | ⟨m, h1, h2, h3⟩)
      · by_cases hb : b = true
        · exact Or.inl hb
        · rw [if_neg hb] at h
          exact Or.inr ⟨j, by omega, by omega, by simpa using h⟩
      · exact Or.inr ⟨m, by omega, by omega, h3⟩
    · rintro (h | ⟨m, h1, h2, h3⟩)
      · rw [if_pos h]; exact Or.inl rfl
      · by_cases hm : m = j
        · subst hm
          left
          by_cases hb : b = true
          · rw [if_pos hb]
          · rw [if_neg hb]; simpa using h3
        · exact Or.inr ⟨m, by omega, by omega, h3⟩
theorem inner_ev (l : List S44) (hl : (l.length : Int) ≤ 1048576) (lo hi tw i : Int) (h0 : 0 ≤ i) (h1 : i < (l.length : Int)) {Y : Int × Int} (d : Nat) : ∀ (j : Int) (b : Bool), 0 ≤ j → i - j = d →
    Ev (fun k => spec_Steady.l0 k l lo hi (if agV l i d j b = true then wrap64 (tw + 1) else tw) (i + 1)) Y → Ev (fun k => spec_Steady.l1 k l lo hi tw i b j) Y := by
  induction d with
  | zero =>
    intro j b hj hd h
    have ei : wrap64 (i + 1) = i + 1 := w64 (by omega)
    unfold agV at h
    refine Ev.step (fun k => ?_) h
    simp only [spec_Steady.l1]
    rw [if_neg (by omega), ei]
    cases b <;> rfl
  | succ d ih =>
    intro j b hj hd h
    have ej : wrap64 (j + 1) = j + 1 := w64 (by omega)
    unfold agV at h
    refine Ev.step (fun k => ?_) (ih (j + 1) _ (by omega) (by omega) h)
    simp only [spec_Steady.l1]
    rw [if_pos (by omega), ej]
    cases b with
    | true => rfl
    | false =>
      simp only [Bool.false_eq_true, if_false]
      rw [if_pos hj, if_pos (by omega), if_pos h0, if_pos h1]
theorem outer_ev (l : List S44) (hl : (l.length : Int) ≤ 1048576) (hok : l.all stPk = true) (d : Nat) : ∀ (i lo hi tw : Int) (seen : List Int), 0 ≤ i → (l.length : Int) - i = d →
    (∀ y, y ∈ seen ↔ ∃ m : Int, 0 ≤ m ∧ m < i ∧ (rd_T44 l m).f1 = y) → Ev (fun k => spec_Steady.l0 k l lo hi tw i) (stGo (l.drop i.toNat) (decide (i = 0)) seen lo hi tw) := by
  induction d with
  | zero =>
    intro i lo hi tw seen h0 hd hs
    refine Ev.step (f := fun _ => some (wrap64 (hi - lo), tw)) (fun k => ?_) ?_
    · simp only [spec_Steady.l0]
      rw [if_neg (by omega)]
    · rw [List.drop_eq_nil_iff.2 (by omega), stGo]
      exact Ev.now _
  | succ d ih =>
    intro i lo hi tw seen h0 hd hs
    have hi1 : i < (l.length : Int) := by omega
    have hpk : stPk (rd_T44 l i) = true := by
      rw [List.all_eq_true] at hok
      apply hok
      have : rd_T44 l i = l[i.toNat]'(by omega) := by simp [rd_T44, List.getD_eq_getElem?_getD, List.getElem?_eq_getElem (show i.toNat < l.length by omega)]
      rw [this]
      exact List.getElem_mem _
    rw [drop_rd l i h0 hi1, stGo, if_pos hpk]
    have hseen : (rd_T44 l i).f1 ∈ seen ↔ agV l i i.toNat 0 false = true := by
      rw [hs, agV_iff]
      constructor
      · rintro ⟨m, q1, q2, q3⟩; exact Or.inr ⟨m, q1, by omega, q3⟩
      · rintro (q | ⟨m, q1, q2, q3⟩)
        · cases q
        · exact ⟨m, q1, by omega, q3⟩
    have hd0 : (false : Bool) = decide (i + 1 = 0) := by rw [decide_eq_false (by omega)]
    have hnew : ∀ y, y ∈ (if (rd_T44 l i).f1 ∈ seen then seen else seen ++ [(rd_T44 l i).f1]) ↔ ∃ m : Int, 0 ≤ m ∧ m < i + 1 ∧ (rd_T44 l m).f1 = y := by
      intro y
      constructor
      · intro q
        by_cases c : (rd_T44 l i).f1 ∈ seen
        · rw [if_pos c, hs] at q
          obtain ⟨m, q1, q2, q3⟩ := q
          exact ⟨m, q1, by omega, q3⟩
        · rw [if_neg c, List.mem_append, List.mem_singleton, hs] at q
          rcases q with ⟨m, q1, q2, q3⟩ | q
          · exact ⟨m, q1, by omega, q3⟩
          · exact ⟨i, h0, by omega, q.symm⟩
      · rintro ⟨m, q1, q2, q3⟩
        by_cases hm : m = i
        · subst hm
          by_cases c : (rd_T44 l m).f1 ∈ seen
          · rw [if_pos c, ← q3]; exact c
          · rw [if_neg c]; simp [q3]
        · have hy : y ∈ seen := (hs y).2 ⟨m, q1, by omega, q3⟩
          split
          · exact hy
          · simp [hy]
    have IH := ih (i + 1) (mn (if decide (i = 0) = true then stX (rd_T44 l i) else lo) (stX (rd_T44 l i))) (mx (if decide (i = 0) = true then stX (rd_T44 l i) else hi) (stX (rd_T44 l i))) (if (rd_T44 l i).f1 ∈ seen then wrap64 (tw + 1) else tw) _ (by omega) (by omega) hnew
    rw [hd0]
    generalize hS : (if (rd_T44 l i).f1 ∈ seen then seen else seen ++ [(rd_T44 l i).f1]) = S at *
    generalize hlo : (mn (if decide (i = 0) = true then stX (rd_T44 l i) else lo) (stX (rd_T44 l i))) = lo' at *
    generalize hhi : (mx (if decide (i = 0) = true then stX (rd_T44 l i) else hi) (stX (rd_T44 l i))) = hi' at *
    have htw : (if (rd_T44 l i).f1 ∈ seen then wrap64 (tw + 1) else tw) = (if agV l i i.toNat 0 false = true then wrap64 (tw + 1) else tw) := by simp only [hseen]
    rw [htw] at IH ⊢
    generalize stGo (l.drop (i + 1).toNat) (decide (i + 1 = 0)) S lo' hi' (if agV l i i.toNat 0 false = true then wrap64 (tw + 1) else tw) = Y at *
    have H1 : Ev (fun k => spec_Steady.j4 k l lo' hi' tw i) Y := Ev.step (fun k => by simp only [spec_Steady.j4]) (inner_ev l hl lo' hi' tw i h0 hi1 i.toNat 0 false (by omega) (by omega) IH)
    have H2 : ∀ b : Bool, (if b = true then stX (rd_T44 l i) else hi) = hi' → Ev (fun k => spec_Steady.j3 k l lo' hi tw i (stX (rd_T44 l i)) b) Y := by
      intro b hb
      cases b with
      | true => rw [if_pos rfl] at hb; exact Ev.step (fun k => by simp only [spec_Steady.j3, if_true, hb]) H1
      | false => rw [if_neg (by decide)] at hb; exact Ev.step (fun k => by simp only [spec_Steady.j3, Bool.false_eq_true, if_false, hb]) H1
    have H3 : Ev (fun k => spec_Steady.j2 k l lo' hi tw i (stX (rd_T44 l i))) Y := by
      by_cases c : i = 0
      · refine Ev.step (fun k => ?_) (H2 true (by rw [← hhi, decide_eq_true c]; simp [mx]))
        simp only [spec_Steady.j2]
        rw [if_pos c]
      · refine Ev.step (fun k => ?_) (H2 (decide (stX (rd_T44 l i) > hi)) (by rw [← hhi, decide_eq_false c]; unfold mx; by_cases q : hi < stX (rd_T44 l i) <;> simp [q]))
        simp only [spec_Steady.j2]
        rw [if_neg c]
    have H4 : ∀ b : Bool, (if b = true then stX (rd_T44 l i) else lo) = lo' → Ev (fun k => spec_Steady.j1 k l lo hi tw i (stX (rd_T44 l i)) b) Y := by
      intro b hb
      cases b with
      | true => rw [if_pos rfl] at hb; exact Ev.step (fun k => by simp only [spec_Steady.j1, if_true, hb]) H3
      | false => rw [if_neg (by decide)] at hb; exact Ev.step (fun k => by simp only [spec_Steady.j1, Bool.false_eq_true, if_false, hb]) H3
    by_cases c : i = 0
    · refine Ev.step (fun k => ?_) (H4 true (by rw [← hlo, decide_eq_true c]; simp [mn]))
      simp only [spec_Steady.l0]
      rw [if_pos hi1, if_pos h0, if_pos c]
      rfl
    · refine Ev.step (fun k => ?_) (H4 (decide (stX (rd_T44 l i) < lo)) (by rw [← hlo, decide_eq_false c]; unfold mn; by_cases q : stX (rd_T44 l i) < lo <;> simp [q]))
      simp only [spec_Steady.l0]
      rw [if_pos hi1, if_pos h0, if_neg c]
      rfl
def steadyV (l : List S44) : Int × Int := if lenOk l = true then stGo l true [] 0 0 0 else (-1, -1)
theorem steady_impl (l : List S44) : impl_Steady.f l = some (steadyV l) := by
  unfold impl_Steady.f steadyV lenOk
  split <;> rfl
theorem steady_spec (l : List S44) (hl : (l.length : Int) ≤ 1048576) : Ev (fun k => spec_Steady.f k l) (steadyV l) := by
  refine Ev.congr (fun k => by unfold spec_Steady.f spec_l12Packets.f; rfl) (Ev.bind (packets_ev l hl l.length 0 (by omega) (by omega)) ?_)
  rw [show l.drop (0 : Int).toNat = l from rfl]
  unfold steadyV
  cases c : l.all stPk with
  | true =>
    simp only [Bool.true_and]
    by_cases q : lenOk l = true
    · simp only [if_pos q]
      exact outer_ev l hl c l.length 0 0 0 0 [] (by omega) (by omega) (fun y => ⟨(fun z => by cases z), (fun ⟨m, z1, z2, _⟩ => by omega)⟩)
    · simp only [if_neg q]
      exact Ev.now _
  | false =>
    simp only [Bool.false_and, Bool.false_eq_true, if_false]
    rw [show (if lenOk l = true then stGo l true [] 0 0 0 else (-1, -1)) = (-1, -1) by split <;> first | exact st_bad l _ _ _ _ _ c | rfl]
    exact Ev.now _
theorem FnExactSteady : SFnExactSteady.Pure := by
  intro l hl0
  apply Ev.rounds
  by_cases h : wrap64 (1048576 - (l.length : Int)) < 0
  · refine Ev.congr (f := fun _ => some true) (fun k => ?_) (Ev.now _)
    simp [laws_FnExactSteady.f, laws_szPacketS.f, if_pos h]
  · have hl := szPk h hl0.2
    have hl2 : ((l.map toK).length : Int) ≤ 1048576 := by simpa using hl
    have hT := pks_ev l hl
    refine Ev.congr (fun k => by unfold laws_FnExactSteady.f; simp only [laws_szPacketS.f, if_neg h, Option.bind_some]; rfl) (Ev.bind hT (Ev.bind (steady_spec _ hl2) (Ev.bind hT ?_)))
    simp only [steady_impl, Option.bind_some, if_true, bne_self_eq_false]
    refine Ev.step (fun k => by simp only [laws_FnExactSteady.j0, Bool.false_eq_true, if_false]; rfl) (Ev.bind hT (Ev.bind (eqPk_ev _ hl2) ?_))
    simp only [if_true]
    exact Ev.now _

end Go.Proofs.Ytbgdmbjipladoaa.Pure
