/- Ready of the program and of the reference agree at every player, and leave it as it was. No condition. -/
import Derived.Test.YtbgdmbjipladoaaSFnExactReady
set_option linter.unusedVariables false
set_option linter.unusedSimpArgs false
namespace Go.Proofs.Ytbgdmbjipladoaa.Pure
open Go.RowKit Go.Proofs.Ytbgdmbjipladoaa.PFnExactReady Go.Proofs.Ytbgdmbjipladoaa.SFnExactReady Go.Proofs.YtbgdmbjipladoaaW.PrintWords Go.Proofs.YtbgdmbjipladoaaW.PrintLast Go.Proofs.YtbgdmbjipladoaaW.PrintMore
theorem w64 {x : Int} (h : -9000000000000000000 ≤ x ∧ x ≤ 9000000000000000000) : wrap64 x = x := by unfold wrap64; omega
theorem rd_at (l : List Int) (i : Int) (h0 : 0 ≤ i) (h1 : i < l.length) : l[i.toNat]? = some (rd l i) := by
  simp [rd, List.getD_eq_getElem?_getD, List.getElem?_eq_getElem (show i.toNat < l.length by omega)]

theorem gen_to {α β : Type} (l : List α) (hl : (l.length : Int) ≤ 1048576) (F : Nat → List β → Int → Option (List β)) (g : Int → β)
    (hF : ∀ k m i, 0 ≤ i → i < (l.length : Int) → i < (m.length : Int) → F (k + 1) m i = F k (m.set i.toNat (g i)) (wrap64 (i + 1))) (hE : ∀ k m i, ¬ i < (l.length : Int) → F (k + 1) m i = some m)
    (G : α → β) (hg : ∀ (i : Nat) (h : i < l.length), g i = G l[i]) (d : Nat) : ∀ (i : Int) (m : List β), 0 ≤ i → i ≤ l.length → (l.length : Int) - i = d → m.length = l.length →
    (∀ j : Nat, (j : Int) < i → m[j]? = (l.map G)[j]?) → Ev (fun k => F k m i) (l.map G) := by
  induction d with
  | zero =>
    intro i m h0 h1 hd hm hp
    refine Ev.step (f := fun _ => some (l.map G)) (fun k => ?_) (Ev.now _)
    rw [hE k m i (by omega)]
    congr 1
    apply List.ext_getElem?
    intro j
    by_cases hj : j < l.length
    · exact hp j (by omega)
    · rw [List.getElem?_eq_none (by omega), List.getElem?_eq_none (by simp; omega)]
  | succ d ih =>
    intro i m h0 h1 hd hm hp
    have ei : wrap64 (i + 1) = i + 1 := w64 (by omega)
    refine Ev.step (fun k => ?_) (ih (i + 1) (m.set i.toNat (g i)) (by omega) (by omega) (by omega) (by simpa using hm) ?_)
    · rw [hF k m i h0 (by omega) (by omega), ei]
    · intro j hj
      by_cases e : j = i.toNat
      · subst e
        rw [List.getElem?_set_self (by omega), List.getElem?_map, List.getElem?_eq_getElem (show i.toNat < l.length by omega)]
        have := hg i.toNat (by omega)
        rw [Int.toNat_of_nonneg h0] at this
        rw [this]
        rfl
      · rw [List.getElem?_set_ne (by omega)]
        exact hp j (by omega)
theorem gen_eq {n : Nat} (hl : (n : Int) ≤ 1048576) (F : Nat → Int → Option Bool) (hF : ∀ k i, 0 ≤ i → i < (n : Int) → F (k + 1) i = F k (wrap64 (i + 1))) (hE : ∀ k i, ¬ i < (n : Int) → F (k + 1) i = some true)
    (d : Nat) : ∀ (i : Int), 0 ≤ i → i ≤ n → (n : Int) - i = d → Ev (fun k => F k i) true := by
  induction d with
  | zero =>
    intro i h0 h1 hd
    exact Ev.step (f := fun _ => some true) (fun k => hE k i (by omega)) (Ev.now _)
  | succ d ih =>
    intro i h0 h1 hd
    have ei : wrap64 (i + 1) = i + 1 := w64 (by omega)
    refine Ev.step (fun k => ?_) (ih (i + 1) (by omega) (by omega) (by omega))
    rw [hF k i h0 (by omega), ei]
theorem getD_at {α : Type} (l : List α) (z : α) (i : Nat) (h : i < l.length) : l.getD i z = l[i] := by simp [List.getD_eq_getElem?_getD, h]

def toK (x : S41) : S44 := ⟨x.f0, x.f1, x.f2⟩
theorem pk_to (x : S41) : laws_toPacket.f x.f0 x.f1 x.f2.f0 x.f2.f1 x.f2.f2 x.f2.f3 x.f2.f4 x.f2.f5 x.f2.f6 x.f2.f7 x.f2.f8 x.f2.f9 x.f2.f10 x.f2.f11 x.f2.f12 x.f2.f13 x.f2.f14 x.f2.f15 =
    some (x.f0, x.f1, x.f2.f0, x.f2.f1, x.f2.f2, x.f2.f3, x.f2.f4, x.f2.f5, x.f2.f6, x.f2.f7, x.f2.f8, x.f2.f9, x.f2.f10, x.f2.f11, x.f2.f12, x.f2.f13, x.f2.f14, x.f2.f15) := rfl
theorem pks_ev (l : List S41) (hl : (l.length : Int) ≤ 1048576) : Ev (fun k => laws_toPacketS.f k l) (l.map toK) := by
  refine Ev.congr (fun k => ?_) (gen_to l hl (fun k m i => laws_toPacketS.l0 k l m i) (fun i => toK (rd_T41 l i)) (fun k m i h0 h1 h2 => ?_) (fun k m i h => ?_) toK (fun i h => ?_) l.length 0 (List.replicate l.length z44) (by omega) (by omega) (by omega) (by simp) (fun j hj => by omega))
  · unfold laws_toPacketS.f
    rw [if_pos (by omega), if_pos (by omega)]
    rfl
  · simp only [laws_toPacketS.l0]
    rw [if_pos h1, if_pos h0]
    simp only [pk_to, Option.bind_some]
    rw [if_pos h2]
    rfl
  · simp only [laws_toPacketS.l0]
    rw [if_neg h]
  · show toK (l.getD i z41) = _
    rw [getD_at l z41 i h]
theorem eqPk_ev (l : List S44) (hl : (l.length : Int) ≤ 1048576) : Ev (fun k => laws_eqPacketS.f k l l) true := by
  refine Ev.congr (fun k => ?_) (gen_eq (n := l.length) hl (fun k i => laws_eqPacketS.l0 k l l i) (fun k i h0 h1 => ?_) (fun k i h => ?_) l.length 0 (by omega) (by omega) (by omega))
  · unfold laws_eqPacketS.f
    rw [if_pos rfl]
  · simp only [laws_eqPacketS.l0]
    rw [if_pos h1, if_pos h0, if_pos h1]
    simp only [laws_eqPacket.f, laws_eqByteA16.f, if_true, decide_true, Option.bind_some]
  · simp only [laws_eqPacketS.l0]
    rw [if_neg h]
theorem szPk {l : List S41} (h : ¬ wrap64 (1048576 - (l.length : Int)) < 0) (hm : l.length ≤ maxLen) : (l.length : Int) ≤ 1048576 := by unfold maxLen at hm; unfold wrap64 at h; omega
theorem in_spec (a b c : Int) : spec_l1In.f a b c = some (decide (b ≤ a) && decide (a ≤ c)) := by
  unfold spec_l1In.f
  by_cases q : a ≥ b
  · rw [if_pos q]; simp [q]
  · rw [if_neg q]; simp [q]
theorem in_impl (a b c : Int) : impl_in.f a b c = some (decide (b ≤ a) && decide (a ≤ c)) := by
  unfold impl_in.f
  by_cases q : a ≥ b
  · rw [if_pos q]; simp [q]
  · rw [if_neg q]; simp [q]
def inV (a b c : Int) : Bool := decide (b ≤ a) && decide (a ≤ c)
def pkV (t s : Int) : Bool := inV t 0 1000000000 && inV s 0 1000000

theorem tick_spec (a : Int) : spec_l4Tick.f a = some (inV a 0 1000000000) := by simp only [spec_l4Tick.f, in_spec, Option.bind_some]; rfl
theorem seq_spec (a : Int) : spec_l12Seq.f a = some (inV a 0 1000000) := by simp only [spec_l12Seq.f, in_spec, Option.bind_some]; rfl
theorem level_spec (a : Int) : spec_l2Level.f a = some (inV a (-32767) 32767) := by simp only [spec_l2Level.f, in_spec, Option.bind_some]; rfl
/-- The packets from number i on: each in order, each near enough. -/
def stFrom (l : List S44) (n : Int) : Nat → Int → Bool
  | 0, _ => true
  | d + 1, i => if pkV (rd_T44 l i).f0 (rd_T44 l i).f1 = true then (if inV (rd_T44 l i).f1 n (wrap64 ((wrap64 (n + 12)) - 1)) = true then (if i > 0 ∧ (rd_T44 l (i - 1)).f1 ≥ (rd_T44 l i).f1 then false else stFrom l n d (i + 1)) else false) else false
theorem st_spec (l : List S44) (hl : (l.length : Int) ≤ 1048576) (n a b c e : Int) (d : Nat) : ∀ i : Int, 0 ≤ i → (l.length : Int) - i = d →
    Ev (fun k => spec_PlayerOk.l0 k i n a b c e l) (stFrom l n d i) := by
  induction d with
  | zero =>
    intro i h0 hd
    refine Ev.step (f := fun _ => some true) (fun k => ?_) (Ev.now _)
    simp only [spec_PlayerOk.l0]
    rw [if_neg (by omega)]
  | succ d ih =>
    intro i h0 hd
    have ei : wrap64 (i + 1) = i + 1 := w64 (by omega)
    have em : wrap64 (i - 1) = i - 1 := w64 (by omega)
    have IH := ih (i + 1) (by omega) (by omega)
    unfold stFrom
    by_cases c1 : pkV (rd_T44 l i).f0 (rd_T44 l i).f1 = true
    · have e1 : ∀ q0 q1 q2 q3 q4 q5 q6 q7 q8 q9 q10 q11 q12 q13 q14 q15, spec_l12Packet.f (rd_T44 l i).f0 (rd_T44 l i).f1 q0 q1 q2 q3 q4 q5 q6 q7 q8 q9 q10 q11 q12 q13 q14 q15 = some true := by
        intros
        have c1' := c1
        unfold pkV at c1'
        simp only [Bool.and_eq_true] at c1'
        simp only [spec_l12Packet.f, tick_spec, seq_spec, c1'.1, c1'.2, Option.bind_some, if_true]
      rw [if_pos c1]
      by_cases c2 : inV (rd_T44 l i).f1 n (wrap64 ((wrap64 (n + 12)) - 1)) = true
      · have e2 : spec_l1In.f (rd_T44 l i).f1 n (wrap64 ((wrap64 (n + 12)) - 1)) = some true := (in_spec _ _ _).trans (congrArg some c2)
        rw [if_pos c2]
        by_cases c3 : i > 0
        · by_cases c4 : (rd_T44 l (i - 1)).f1 ≥ (rd_T44 l i).f1
          · rw [if_pos ⟨c3, c4⟩]
            refine Ev.step (f := fun _ => some false) (fun k => ?_) (Ev.now _)
            simp only [spec_PlayerOk.l0]
            rw [if_pos (by omega), if_pos h0]
            simp only [e1, e2, Option.bind_some, if_true, em]
            rw [if_pos c3, if_pos (by omega), if_pos (by omega), if_pos c4]
          · rw [if_neg (by omega)]
            refine Ev.step (fun k => ?_) IH
            simp only [spec_PlayerOk.l0]
            rw [if_pos (by omega), if_pos h0]
            simp only [e1, e2, Option.bind_some, if_true, em, ei]
            rw [if_pos c3, if_pos (by omega), if_pos (by omega), if_neg c4]
        · rw [if_neg (by omega)]
          refine Ev.step (fun k => ?_) IH
          simp only [spec_PlayerOk.l0]
          rw [if_pos (by omega), if_pos h0]
          simp only [e1, e2, Option.bind_some, if_true, ei]
          rw [if_neg c3]
      · have e2 : spec_l1In.f (rd_T44 l i).f1 n (wrap64 ((wrap64 (n + 12)) - 1)) = some false := (in_spec _ _ _).trans (congrArg some (by simpa [inV] using c2))
        rw [if_neg c2]
        refine Ev.step (f := fun _ => some false) (fun k => ?_) (Ev.now _)
        simp only [spec_PlayerOk.l0]
        rw [if_pos (by omega), if_pos h0]
        simp only [e1, e2, Option.bind_some, if_true, Bool.false_eq_true, if_false]
    · have e1 : ∀ q0 q1 q2 q3 q4 q5 q6 q7 q8 q9 q10 q11 q12 q13 q14 q15, spec_l12Packet.f (rd_T44 l i).f0 (rd_T44 l i).f1 q0 q1 q2 q3 q4 q5 q6 q7 q8 q9 q10 q11 q12 q13 q14 q15 = some false := by
        intros
        have c1' := c1
        unfold pkV at c1'
        simp only [spec_l12Packet.f, tick_spec, seq_spec, Option.bind_some]
        by_cases z : inV (rd_T44 l i).f0 0 1000000000 = true
        · rw [if_pos z]; rw [z] at c1'; simpa using c1'
        · rw [if_neg z]
      rw [if_neg c1]
      refine Ev.step (f := fun _ => some false) (fun k => ?_) (Ev.now _)
      simp only [spec_PlayerOk.l0]
      rw [if_pos (by omega), if_pos h0]
      simp only [e1, Option.bind_some, Bool.false_eq_true, if_false]
theorem st_impl (l : List S44) (hl : (l.length : Int) ≤ 1048576) (n a b c e : Int) (d : Nat) : ∀ i : Int, 0 ≤ i → (l.length : Int) - i = d →
    Ev (fun k => impl_PlayerOk.l0 k l (l.length : Int) i n a b c e l) (stFrom l n d i) := by
  induction d with
  | zero =>
    intro i h0 hd
    refine Ev.step (f := fun _ => some true) (fun k => ?_) (Ev.now _)
    simp only [impl_PlayerOk.l0]
    rw [if_neg (by omega)]
  | succ d ih =>
    intro i h0 hd
    have ei : wrap64 (i + 1) = i + 1 := w64 (by omega)
    have em : wrap64 (i - 1) = i - 1 := w64 (by omega)
    have IH := ih (i + 1) (by omega) (by omega)
    unfold stFrom
    by_cases c1 : pkV (rd_T44 l i).f0 (rd_T44 l i).f1 = true
    · have e1 : ∀ q0 q1 q2 q3 q4 q5 q6 q7 q8 q9 q10 q11 q12 q13 q14 q15, impl_packetOk.f (rd_T44 l i).f0 (rd_T44 l i).f1 q0 q1 q2 q3 q4 q5 q6 q7 q8 q9 q10 q11 q12 q13 q14 q15 = some true := by
        intros
        have c1' := c1
        unfold pkV inV at c1'
        simp only [impl_packetOk.f, in_impl, Option.bind_some]
        simp only [Bool.and_eq_true] at c1'
        simp [c1']
      rw [if_pos c1]
      by_cases c2 : inV (rd_T44 l i).f1 n (wrap64 ((wrap64 (n + 12)) - 1)) = true
      · have e2 : impl_in.f (rd_T44 l i).f1 n (wrap64 ((wrap64 (n + 12)) - 1)) = some true := (in_impl _ _ _).trans (congrArg some c2)
        rw [if_pos c2]
        by_cases c3 : i > 0
        · by_cases c4 : (rd_T44 l (i - 1)).f1 ≥ (rd_T44 l i).f1
          · rw [if_pos ⟨c3, c4⟩]
            refine Ev.step (f := fun _ => some false) (fun k => ?_) (Ev.now _)
            simp only [impl_PlayerOk.l0]
            rw [if_pos (by omega), if_pos h0, if_pos (by omega)]
            simp only [e1, e2, Option.bind_some, if_true, em]
            rw [if_pos c3, if_pos (by omega), if_pos (by omega), if_pos c4]
          · rw [if_neg (by omega)]
            refine Ev.step (fun k => ?_) IH
            simp only [impl_PlayerOk.l0]
            rw [if_pos (by omega), if_pos h0, if_pos (by omega)]
            simp only [e1, e2, Option.bind_some, if_true, em, ei]
            rw [if_pos c3, if_pos (by omega), if_pos (by omega), if_neg c4]
        · rw [if_neg (by omega)]
          refine Ev.step (fun k => ?_) IH
          simp only [impl_PlayerOk.l0]
          rw [if_pos (by omega), if_pos h0, if_pos (by omega)]
          simp only [e1, e2, Option.bind_some, if_true, ei]
          rw [if_neg c3]
      · have e2 : impl_in.f (rd_T44 l i).f1 n (wrap64 ((wrap64 (n + 12)) - 1)) = some false := (in_impl _ _ _).trans (congrArg some (by simpa [inV] using c2))
        rw [if_neg c2]
        refine Ev.step (f := fun _ => some false) (fun k => ?_) (Ev.now _)
        simp only [impl_PlayerOk.l0]
        rw [if_pos (by omega), if_pos h0, if_pos (by omega)]
        simp only [e1, e2, Option.bind_some, if_true, Bool.false_eq_true, if_false]
    · have e1 : ∀ q0 q1 q2 q3 q4 q5 q6 q7 q8 q9 q10 q11 q12 q13 q14 q15, impl_packetOk.f (rd_T44 l i).f0 (rd_T44 l i).f1 q0 q1 q2 q3 q4 q5 q6 q7 q8 q9 q10 q11 q12 q13 q14 q15 = some false := by
        intros
        have c1' := c1
        unfold pkV inV at c1'
        simp only [impl_packetOk.f, in_impl, Option.bind_some]
        by_cases z : (decide (0 ≤ (rd_T44 l i).f0) && decide ((rd_T44 l i).f0 ≤ 1000000000)) = true
        · rw [if_pos z]; rw [z] at c1'; simpa using c1'
        · rw [if_neg z]
      rw [if_neg c1]
      refine Ev.step (f := fun _ => some false) (fun k => ?_) (Ev.now _)
      simp only [impl_PlayerOk.l0]
      rw [if_pos (by omega), if_pos h0, if_pos (by omega)]
      simp only [e1, Option.bind_some, Bool.false_eq_true, if_false]
theorem st_grow (l : List S44) (n : Int) (h0 : 0 ≤ n) (h1 : n ≤ 1000000) : ∀ (d : Nat) (i : Int), 0 ≤ i → stFrom l n d i = true → (i > 0 → (rd_T44 l (i - 1)).f1 ≥ n + (i - 1)) → i + d ≤ 12 ∨ d = 0
  | 0, i, hi, _, _ => Or.inr rfl
  | d + 1, i, hi, h, hp => by
    unfold stFrom at h
    split at h
    · split at h
      · rename_i c2
        split at h
        · cases h
        · rename_i c3
          unfold inV at c2
          simp only [Bool.and_eq_true, decide_eq_true_eq] at c2
          rw [w64 (x := n + 12) (by omega), w64 (by omega)] at c2
          have hcur : (rd_T44 l i).f1 ≥ n + i := by
            by_cases q : i > 0
            · have := hp q
              omega
            · omega
          rcases st_grow l n h0 h1 d (i + 1) (by omega) h (fun _ => by rw [show i + 1 - 1 = i by omega]; exact hcur) with q | q
          · left; omega
          · left; omega
      · cases h
    · cases h
def playerV (n a b c e : Int) (l : List S44) : Bool := inV n 0 1000000 && (inV a 1 12 && (inV b 0 1000000000 && (inV c 0 1000000000 && (inV e (-32767) 32767 && stFrom l n l.length 0))))
theorem playerV_len {n a b c e : Int} {l : List S44} (h : playerV n a b c e l = true) : l.length ≤ 12 ∧ 1 ≤ a ∧ 0 ≤ n ∧ n ≤ 1000000 := by
  unfold playerV at h
  simp only [Bool.and_eq_true] at h
  obtain ⟨h1, h2, h3, h4, h5, h6⟩ := h
  unfold inV at h1 h2
  simp only [Bool.and_eq_true, decide_eq_true_eq] at h1 h2
  rcases st_grow l n h1.1 h1.2 l.length 0 (by omega) h6 (fun q => by omega) with q | q <;> omega
theorem player_spec (n a b c e : Int) (l : List S44) (hl : (l.length : Int) ≤ 1048576) : Ev (fun k => spec_PlayerOk.f k n a b c e l) (playerV n a b c e l) := by
  have J : Ev (fun k => spec_PlayerOk.j0 k true n a b c e l) false := Ev.step (f := fun _ => some false) (fun k => by simp only [spec_PlayerOk.j0, if_true]) (Ev.now _)
  unfold playerV
  refine Ev.congr (fun k => by unfold spec_PlayerOk.f; simp only [seq_spec, tick_spec, level_spec, in_spec, Option.bind_some]; rfl) ?_
  by_cases c1 : inV n 0 1000000 = true
  · simp only [c1, Bool.true_and, if_true]
    by_cases c2 : inV a 1 12 = true
    · simp only [c2, Bool.true_and, if_true]
      simp only [show (decide (1 ≤ a) && decide (a ≤ 12)) = true from c2, if_true]
      by_cases c3 : inV b 0 1000000000 = true
      · simp only [c3, Bool.true_and, if_true]
        by_cases c4 : inV c 0 1000000000 = true
        · simp only [c4, Bool.true_and, if_true]
          by_cases c5 : inV e (-32767) 32767 = true
          · simp only [c5, Bool.true_and, Bool.not_true]
            refine Ev.step (fun k => ?_) (st_spec l hl n a b c e l.length 0 (by omega) (by omega))
            simp only [spec_PlayerOk.j0, Bool.false_eq_true, if_false]
          · simp only [c5, Bool.false_and, Bool.not_false]
            exact J
        · simp only [c4, Bool.false_and, Bool.false_eq_true, if_false]; exact J
      · simp only [c3, Bool.false_and, Bool.false_eq_true, if_false]; exact J
    · simp only [c2, Bool.false_and]
      simp only [show (decide (1 ≤ a) && decide (a ≤ 12)) = false by simpa [inV] using c2, Bool.false_eq_true, if_false]; exact J
  · simp only [c1, Bool.false_and, Bool.false_eq_true, if_false]; exact J
theorem player_impl (n a b c e : Int) (l : List S44) (hl : (l.length : Int) ≤ 1048576) : Ev (fun k => impl_PlayerOk.f k n a b c e l) (playerV n a b c e l) := by
  have J : Ev (fun k => impl_PlayerOk.j0 k true n a b c e l) false := Ev.step (f := fun _ => some false) (fun k => by simp only [impl_PlayerOk.j0, if_true]) (Ev.now _)
  by_cases cl : (l.length : Int) > 12
  · have hV : playerV n a b c e l = false := by
      cases q : playerV n a b c e l with
      | false => rfl
      | true => have := (playerV_len q).1; omega
    rw [hV]
    refine Ev.congr (f := fun k => impl_PlayerOk.j0 k true n a b c e l) (fun k => ?_) J
    unfold impl_PlayerOk.f
    simp only [in_impl, Option.bind_some, decide_eq_true cl, ite_self]
  · unfold playerV
    refine Ev.congr (fun k => by unfold impl_PlayerOk.f; simp only [in_impl, Option.bind_some, decide_eq_false cl]; rfl) ?_
    unfold inV
    by_cases c1 : (decide (0 ≤ n) && decide (n ≤ 1000000)) = true
    · simp only [c1, Bool.true_and, if_true]
      by_cases c2 : (decide (1 ≤ a) && decide (a ≤ 12)) = true
      · simp only [c2, Bool.true_and, if_true]
        by_cases c3 : (decide (0 ≤ b) && decide (b ≤ 1000000000)) = true
        · simp only [c3, Bool.true_and, if_true]
          by_cases c4 : (decide (0 ≤ c) && decide (c ≤ 1000000000)) = true
          · simp only [c4, Bool.true_and, if_true]
            by_cases c5 : (decide (-32767 ≤ e) && decide (e ≤ 32767)) = true
            · simp only [c5, Bool.true_and, if_true]
              refine Ev.step (fun k => ?_) (st_impl l hl n a b c e l.length 0 (by omega) (by omega))
              simp only [impl_PlayerOk.j0, Bool.false_eq_true, if_false]
            · simp only [c5, Bool.false_and, Bool.false_eq_true, if_false]; exact J
          · simp only [c4, Bool.false_and, Bool.false_eq_true, if_false]; exact J
        · simp only [c3, Bool.false_and, Bool.false_eq_true, if_false]; exact J
      · simp only [c2, Bool.false_and, Bool.false_eq_true, if_false]; exact J
    · simp only [c1, Bool.false_and, Bool.false_eq_true, if_false]; exact J
theorem play_to (n a b c e : Int) (l : List S41) (hl : (l.length : Int) ≤ 1048576) : Ev (fun k => laws_toPlayer.f k n a b c e l) (n, a, b, c, e, l.map toK) := by
  refine Ev.congr (fun k => by unfold laws_toPlayer.f; rfl) (Ev.bind (pks_ev l hl) (Ev.now _))
theorem play_eq (n a b c e : Int) (l : List S44) (hl : (l.length : Int) ≤ 1048576) : Ev (fun k => laws_eqPlayer.f k n a b c e l n a b c e l) true := by
  refine Ev.congr (fun k => by unfold laws_eqPlayer.f; simp only [if_true]; rfl) (Ev.bind (eqPk_ev l hl) ?_)
  simp only [if_true]
  exact Ev.now _

def readyV (n a b c e : Int) (l : List S44) : Bool := playerV n a b c e l && (decide (0 < (l.length : Int)) && (decide ((l.length : Int) ≥ a) || decide ((rd_T44 l ((l.length : Int) - 1)).f1 ≥ wrap64 (n + a))))
theorem ready_spec (n a b c e : Int) (l : List S44) (hl : (l.length : Int) ≤ 1048576) : Ev (fun k => spec_Ready.f k n a b c e l) (readyV n a b c e l) := by
  refine Ev.congr (fun k => by unfold spec_Ready.f; rfl) (Ev.bind (player_spec n a b c e l hl) ?_)
  unfold readyV
  cases hp : playerV n a b c e l with
  | false => simp only [Bool.false_eq_true, if_false, Bool.false_and]; exact Ev.now _
  | true =>
    simp only [if_true, Bool.true_and]
    by_cases c0 : (l.length : Int) = 0
    · rw [if_pos c0, decide_eq_false (by omega), Bool.false_and]
      exact Ev.now _
    · rw [if_neg c0, decide_eq_true (show 0 < (l.length : Int) by omega), Bool.true_and]
      by_cases c1 : (l.length : Int) ≥ a
      · rw [if_pos c1, decide_eq_true c1, Bool.true_or]
        exact Ev.now _
      · rw [if_neg c1, decide_eq_false c1, Bool.false_or, w64 (x := (l.length : Int) - 1) (by omega), if_pos (by omega), if_pos (by omega)]
        exact Ev.now _
theorem ready_impl (n a b c e : Int) (l : List S44) (hl : (l.length : Int) ≤ 1048576) : Ev (fun k => impl_Ready.f k n a b c e l) (readyV n a b c e l) := by
  refine Ev.congr (fun k => by unfold impl_Ready.f; rfl) (Ev.bind (player_impl n a b c e l hl) ?_)
  unfold readyV
  cases hp : playerV n a b c e l with
  | false => simp only [Bool.false_eq_true, if_false, Bool.false_and]; exact Ev.now _
  | true =>
    have ha := (playerV_len hp).2.1
    simp only [if_true, Bool.true_and]
    by_cases c1 : (l.length : Int) ≥ a
    · rw [if_pos c1, decide_eq_true c1, Bool.true_or, decide_eq_true (show 0 < (l.length : Int) by omega), Bool.true_and]
      exact Ev.now _
    · rw [if_neg c1, decide_eq_false c1, Bool.false_or]
      by_cases c0 : (l.length : Int) > 0
      · rw [if_pos c0, decide_eq_true (show 0 < (l.length : Int) by omega), Bool.true_and, w64 (x := (l.length : Int) - 1) (by omega), if_pos (by omega), if_pos (by omega)]
        exact Ev.now _
      · rw [if_neg c0, decide_eq_false (by omega), Bool.false_and]
        exact Ev.now _
theorem FnExactReady : SFnExactReady.Pure := by
  intro n a b c e l _ _ _ _ _ hl0
  apply Ev.rounds
  by_cases h : wrap64 (1048576 - (l.length : Int)) < 0
  · refine Ev.congr (f := fun _ => some true) (fun k => ?_) (Ev.now _)
    simp [laws_FnExactReady.f, laws_szPlayer.f, laws_szPacketS.f, if_pos h]
  · have hl := szPk h hl0.2
    have hl2 : ((l.map toK).length : Int) ≤ 1048576 := by simpa using hl
    have hT := play_to n a b c e l hl
    refine Ev.congr (fun k => by unfold laws_FnExactReady.f; simp only [laws_szPlayer.f, laws_szPacketS.f, if_neg h, Option.bind_some]; rfl) (Ev.bind hT (Ev.bind (ready_spec n a b c e _ hl2) (Ev.bind hT (Ev.bind (ready_impl n a b c e _ hl2) ?_))))
    simp only [bne_self_eq_false, Bool.false_eq_true, if_false]
    refine Ev.bind hT (Ev.bind (play_eq n a b c e _ hl2) ?_)
    simp only [if_true]
    exact Ev.now _

end Go.Proofs.Ytbgdmbjipladoaa.Pure
