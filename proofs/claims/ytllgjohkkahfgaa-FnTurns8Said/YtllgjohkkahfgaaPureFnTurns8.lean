/- FnTurns8: of drawn callers for one skill all are given in their order. No condition. -/
import Derived.Test.YtllgjohkkahfgaaSFnTurns8
set_option linter.unusedVariables false
set_option linter.unusedSimpArgs false
namespace Go.Proofs.Ytllgjohkkahfgaa.Pure
open Go.RowKit Go.Proofs.Ytllgjohkkahfgaa.PFnTurns8 Go.Proofs.Ytllgjohkkahfgaa.SFnTurns8 Go.Proofs.YtllgjohkkahfgaaW.PrintWords Go.Proofs.YtllgjohkkahfgaaW.PrintLast Go.Proofs.YtllgjohkkahfgaaW.PrintMore
theorem w64 {x : Int} (h : -9000000000000000000 ≤ x ∧ x ≤ 9000000000000000000) : wrap64 x = x := by unfold wrap64; omega
theorem rd_at (l : List Int) (i : Int) (h0 : 0 ≤ i) (h1 : i < l.length) : l[i.toNat]? = some (rd l i) := by
  simp [rd, List.getD_eq_getElem?_getD, List.getElem?_eq_getElem (show i.toNat < l.length by omega)]

theorem gen_to {α β : Type} (l : List α) (hl : (l.length : Int) ≤ 1048576) (F : Nat → List β → Int → Option (List β)) (g : Int → β)
    (hF : ∀ k m i, 0 ≤ i → i < (l.length : Int) → i < (m.length : Int) → F (k + 1) m i = F k (m.set i.toNat (g i)) (wrap64 (i + 1))) (hE : ∀ k m i, ¬ i < (l.length : Int) → F (k + 1) m i = some m)
    (G : α → β) (hg : ∀ (i : Nat) (h : i < l.length), g i = G l[i]) (d : Nat) : ∀ (i : Int) (m : List β), 0 ≤ i → i ≤ l.length → (l.length : Int) - i = d → m.length = l.length →
    (∀ j : Nat, (j : Int) < i → m[j]? = (l.map G)[j]?) → Ev (fun k => F k m i) (l.map G) := by
  induction d with
  | zero =>
    intro i m h0 h1 hd hm hp
    refine Ev.step (f := fun _ => some (l.map G)) (fun k => ?_) (Ev.now _)
    rw [hE k m i (by omega)]
    congr 1
    apply List.ext_getElem?
    intro j
    by_cases hj : j < l.length
    · exact hp j (by omega)
    · rw [List.getElem?_eq_none (by omega), List.getElem?_eq_none (by simp; omega)]
  | succ d ih =>
    intro i m h0 h1 hd hm hp
    have ei : wrap64 (i + 1) = i + 1 := w64 (by omega)
    refine Ev.step (fun k => ?_) (ih (i + 1) (m.set i.toNat (g i)) (by omega) (by omega) (by omega) (by simpa using hm) ?_)
    · rw [hF k m i h0 (by omega) (by omega), ei]
    · intro j hj
      by_cases e : j = i.toNat
      · subst e
        rw [List.getElem?_set_self (by omega), List.getElem?_map, List.getElem?_eq_getElem (show i.toNat < l.length by omega)]
        have := hg i.toNat (by omega)
        rw [Int.toNat_of_nonneg h0] at this
        rw [this]
        rfl
      · rw [List.getElem?_set_ne (by omega)]
        exact hp j (by omega)
theorem gen_eq {n : Nat} (hl : (n : Int) ≤ 1048576) (F : Nat → Int → Option Bool) (hF : ∀ k i, 0 ≤ i → i < (n : Int) → F (k + 1) i = F k (wrap64 (i + 1))) (hE : ∀ k i, ¬ i < (n : Int) → F (k + 1) i = some true)
    (d : Nat) : ∀ (i : Int), 0 ≤ i → i ≤ n → (n : Int) - i = d → Ev (fun k => F k i) true := by
  induction d with
  | zero =>
    intro i h0 h1 hd
    exact Ev.step (f := fun _ => some true) (fun k => hE k i (by omega)) (Ev.now _)
  | succ d ih =>
    intro i h0 h1 hd
    have ei : wrap64 (i + 1) = i + 1 := w64 (by omega)
    refine Ev.step (fun k => ?_) (ih (i + 1) (by omega) (by omega) (by omega))
    rw [hF k i h0 (by omega), ei]
theorem getD_at {α : Type} (l : List α) (z : α) (i : Nat) (h : i < l.length) : l.getD i z = l[i] := by simp [List.getD_eq_getElem?_getD, h]


theorem big_eq (l : List Int) : laws_big.f l = some (decide ((l.length : Int) > 1048576)) := rfl
theorem at_ok (l : List Int) (i : Int) (hl : (l.length : Int) ≤ 1048576) (hb : ∀ x ∈ l, 0 ≤ x ∧ x ≤ 255) (h0 : 0 ≤ i) (h1 : i ≤ 100000000) : ∃ b, laws_at.f l i = some b ∧ 0 ≤ b ∧ b ≤ 255 := by
  unfold laws_at.f
  by_cases c : i < (l.length : Int)
  · rw [if_pos c, if_pos h0]
    have hm := hb _ (List.mem_of_getElem? (rd_at l i h0 c))
    rw [w64 (by omega)]
    exact ⟨_, rfl, hm⟩
  · rw [if_neg c]
    refine ⟨_, rfl, ?_⟩
    rw [w64 (x := i * 7) (by omega), w64 (by omega), Int.tmod_eq_emod_of_nonneg (by omega)]
    omega
theorem u8_range {x : Int} (h : (Lit.int .u8 x).wf = true) : 0 ≤ x ∧ x ≤ 255 := by
  simp [Lit.wf, IntKind.min, IntKind.max, IntKind.signed, IntKind.bits] at h
  omega

theorem in_impl (a b c : Int) : impl_in.f a b c = some (decide (b ≤ a) && decide (a ≤ c)) := by
  unfold impl_in.f
  by_cases q : a ≥ b
  · rw [if_pos q]; simp [q]
  · rw [if_neg q]; simp [q]
def inV (a b c : Int) : Bool := decide (b ≤ a) && decide (a ≤ c)
theorem in_i (a b c : Int) : impl_in.f a b c = some (inV a b c) := in_impl a b c
theorem drop41 (l : List S41) (i : Int) (h0 : 0 ≤ i) (h1 : i < (l.length : Int)) : l.drop i.toNat = rd_T41 l i :: l.drop (i + 1).toNat := by
  rw [List.drop_eq_getElem_cons (show i.toNat < l.length by omega)]
  congr 1
  · simp [rd_T41, List.getD_eq_getElem?_getD, List.getElem?_eq_getElem (show i.toNat < l.length by omega)]
  · congr 1; omega
theorem drop70 (l : List S70) (i : Int) (h0 : 0 ≤ i) (h1 : i < (l.length : Int)) : l.drop i.toNat = rd_T70 l i :: l.drop (i + 1).toNat := by
  rw [List.drop_eq_getElem_cons (show i.toNat < l.length by omega)]
  congr 1
  · simp [rd_T70, List.getD_eq_getElem?_getD, List.getElem?_eq_getElem (show i.toNat < l.length by omega)]
  · congr 1; omega
theorem dropI (l : List Int) (i : Int) (h0 : 0 ≤ i) (h1 : i < (l.length : Int)) : l.drop i.toNat = rd l i :: l.drop (i + 1).toNat := by
  rw [List.drop_eq_getElem_cons (show i.toNat < l.length by omega)]
  congr 1
  · simp [rd, List.getD_eq_getElem?_getD, List.getElem?_eq_getElem (show i.toNat < l.length by omega)]
  · congr 1; omega
theorem mem41 (l : List S41) (i : Int) (h0 : 0 ≤ i) (h1 : i < (l.length : Int)) : rd_T41 l i ∈ l := by
  have e : rd_T41 l i = l[i.toNat]'(by omega) := by simp [rd_T41, List.getD_eq_getElem?_getD, List.getElem?_eq_getElem (show i.toNat < l.length by omega)]
  rw [e]
  exact List.getElem_mem _
def p1 (x : Int) : Int := IntKind.u64.wrap ((Go.bits .and .u64 (x / 2) 6148914691236517205) + (Go.bits .and .u64 x 6148914691236517205))
def p2 (x : Int) : Int := IntKind.u64.wrap ((Go.bits .and .u64 (x / 4) 3689348814741910323) + (Go.bits .and .u64 x 3689348814741910323))
def p3 (x : Int) : Int := Go.bits .and .u64 (IntKind.u64.wrap ((x / 16) + x)) 1085102592571150095
def p4 (x : Int) : Int := IntKind.u64.wrap (x + (x / 256))
def p5 (x : Int) : Int := IntKind.u64.wrap (x + (x / 65536))
def p6 (x : Int) : Int := IntKind.u64.wrap (x + (x / 4294967296))
def p7 (x : Int) : Int := Go.bits .and .i64 (wrap64 x) 127
/-- How many skills. -/
def pop0 (x : Int) : Int := p7 (p6 (p5 (p4 (p3 (p2 (p1 (IntKind.u64.wrap x)))))))
theorem pop_impl (x : Int) : bits_OnesCount.f (IntKind.u64.wrap x) = some (pop0 x) := by
  unfold bits_OnesCount.f bits_OnesCount64.f pop0 p7 p6 p5 p4 p3 p2 p1
  rfl
def n1 (n : Nat) : Nat := (n / 2 &&& 85) + (n &&& 85)
def n2 (n : Nat) : Nat := (n / 4 &&& 51) + (n &&& 51)
def n3 (n : Nat) : Nat := (n / 16 + n) &&& 3855
theorem pop_nat (n : Nat) (h : n < 256) : pop0 (n : Int) = (n3 (n2 (n1 n)) : Nat) := by
  have k0 : ∀ n : Nat, n < 256 → IntKind.u64.wrap (n : Int) = (n : Nat) := by decide +kernel
  have k1 : ∀ n : Nat, n < 256 → p1 (n : Int) = (n1 n : Nat) := by decide +kernel
  have k2 : ∀ n : Nat, n < 256 → p2 (n : Int) = (n2 n : Nat) := by decide +kernel
  have k3 : ∀ n : Nat, n < 256 → p3 (n : Int) = (n3 n : Nat) := by decide +kernel
  have k4 : ∀ n : Nat, n < 256 → p4 (n : Int) = (n : Nat) := by decide +kernel
  have k5 : ∀ n : Nat, n < 256 → p5 (n : Int) = (n : Nat) := by decide +kernel
  have k6 : ∀ n : Nat, n < 256 → p6 (n : Int) = (n : Nat) := by decide +kernel
  have k7 : ∀ n : Nat, n < 128 → p7 (n : Int) = (n : Nat) := by decide +kernel
  have b1 : ∀ n : Nat, n < 256 → n1 n < 256 := by decide +kernel
  have b2 : ∀ n : Nat, n < 256 → n2 n < 256 := by decide +kernel
  have b3 : ∀ n : Nat, n < 256 → n3 (n2 (n1 n)) < 16 := by decide +kernel
  have c1 := b1 n h
  have c2 := b2 _ c1
  have c3 := b3 n h
  unfold pop0
  rw [k0 n h, k1 n h, k2 _ c1, k3 _ c2, k4 _ (by omega), k5 _ (by omega), k6 _ (by omega), k7 _ (by omega)]
theorem popI : ∃ pop : Int → Int, ∀ x, bits_OnesCount.f (IntKind.u64.wrap x) = some (pop x) := ⟨pop0, pop_impl⟩
def couldW (s : Int) (a : S41) : Bool := decide (a.f1 < 0) && ((Go.bits .and .i64 a.f0 s) != 0)
def better (pop : Int → Int) (a b : S41) : Bool := decide (pop a.f0 < pop b.f0) || (decide (pop a.f0 = pop b.f0) && decide (a.f2 < b.f2))
def tkGo (pop : Int → Int) (ags : List S41) (s : Int) : List S41 → Int → Int → Int
  | [], _, b => b
  | a :: r, i, b => tkGo pop ags s r (i + 1) (if couldW s a = true then (if b < 0 then i else if better pop a (rd_T41 ags b) = true then i else b) else b)
theorem tkGo_iff (pop : Int → Int) (ags : List S41) (s : Int) : ∀ (l : List S41) (i b : Int), 0 ≤ i → (0 ≤ tkGo pop ags s l i b ↔ 0 ≤ b ∨ l.any (couldW s) = true)
  | [], i, b, h => by simp [tkGo]
  | a :: r, i, b, h => by
    unfold tkGo
    rw [tkGo_iff pop ags s r (i + 1) _ (by omega), List.any_cons]
    cases c : couldW s a with
    | false => simp
    | true =>
      simp only [if_true, Bool.true_or, or_true, iff_true]
      left
      split
      · exact h
      · split
        · exact h
        · omega
theorem tkGo_lt (pop : Int → Int) (ags : List S41) (s : Int) : ∀ (l : List S41) (i b : Int), b < i → tkGo pop ags s l i b < i + l.length
  | [], i, b, h => by simpa [tkGo] using h
  | a :: r, i, b, h => by
    unfold tkGo
    have q := tkGo_lt pop ags s r (i + 1) (if couldW s a = true then (if b < 0 then i else if better pop a (rd_T41 ags b) = true then i else b) else b) (by
      split
      · split
        · omega
        · split <;> omega
      · omega)
    simp only [List.length_cons]
    omega
/-- A skill. -/
def skV (x : Int) : Bool := inV x 1 128 && ((Go.bits .and .i64 x (wrap64 (x - 1))) == 0)
theorem sk_impl (x : Int) : impl_skillOk.f x = some (skV x) := by
  unfold impl_skillOk.f skV
  rw [in_i, Option.bind_some]
  cases inV x 1 128 <;> simp
def goodA (n : Int) (a : S41) : Bool := inV a.f0 0 255 && (inV a.f1 (-1) 1000000000 && inV a.f2 0 n)
def goodW (n : Int) (w : S70) : Bool := inV w.f0 0 1000000000 && (skV w.f1 && (inV w.f2 0 9 && inV w.f3 0 n))
def bz : List S41 → List Int
  | [] => []
  | a :: r => if a.f1 ≥ 0 then a.f1 :: bz r else bz r
theorem bz_len : ∀ l : List S41, (bz l).length ≤ l.length
  | [] => Nat.le_refl _
  | a :: r => by
    unfold bz
    have := bz_len r
    split <;> simp <;> omega
def nd : List Int → List Int → Bool
  | _, [] => true
  | s, x :: r => !decide (x ∈ s) && nd (s ++ [x]) r
theorem nd_cong : ∀ (l s t : List Int), (∀ x ∈ l, (x ∈ s ↔ x ∈ t)) → nd s l = nd t l
  | [], _, _, _ => rfl
  | x :: r, s, t, h => by
    unfold nd
    rw [show decide (x ∈ s) = decide (x ∈ t) by simp only [h x (List.mem_cons_self)], nd_cong r (s ++ [x]) (t ++ [x]) (fun y hy => by simp only [List.mem_append, List.mem_singleton, h y (List.mem_cons_of_mem _ hy)])]
def free (ags : List S41) (w : S70) : Bool := !ags.any (couldW w.f1)
/-- A desk ags it should be. -/
def deskV (n : Int) (ags : List S41) (qs : List S70) (g : Int) : Bool :=
  inV n 0 1000000000 && (inV (ags.length : Int) 1 12 && (!decide ((qs.length : Int) > 40) && (inV g 0 1000000 && (ags.all (goodA n) && (qs.all (fun w => goodW n w && free ags w) && nd [] (bz ags ++ qs.map (·.f0)))))))
theorem inV_iff {a b c : Int} : inV a b c = true ↔ b ≤ a ∧ a ≤ c := by unfold inV; simp
theorem all_cons_and {α : Type} (p : α → Bool) (a : α) (r : List α) : (a :: r).all p = (p a && r.all p) := List.all_cons
section
variable (n : Int) (ags : List S41) (qs : List S70) (g : Int)
end
theorem p_eq (b0 b1 b2 b3 : Int) : impl_Desk_next_2.p b0 b1 b2 b3 = couldW b1 := by
  funext a
  rfl
theorem could_impl (w : S70) (a : S41) : impl_Desk_next_1.f w.f0 w.f1 w.f2 w.f3 a.f0 a.f1 a.f2 = some (couldW w.f1 a) := by
  unfold impl_Desk_next_1.f couldW
  by_cases c : a.f1 < 0
  · rw [if_pos c, decide_eq_true c, Bool.true_and]
  · rw [if_neg c, decide_eq_false c, Bool.false_and]
def keeps (w v : S70) : Bool := decide (w.f2 < v.f2) || (decide (w.f2 = v.f2) && decide (w.f3 ≥ v.f3))
def pk (ags : List S41) (qs : List S70) : List S70 → Int → Int → Int
  | [], _, u => u
  | w :: r, i, u => pk ags qs r (i + 1) (if ags.any (couldW w.f1) = true then (if u ≥ 0 then (if keeps w (rd_T70 qs u) = true then u else i) else i) else u)
theorem pk_iff (ags : List S41) (qs : List S70) : ∀ (l : List S70) (i u : Int), 0 ≤ i → (0 ≤ pk ags qs l i u ↔ 0 ≤ u ∨ l.any (fun w => ags.any (couldW w.f1)) = true)
  | [], i, u, h => by simp [pk]
  | w :: r, i, u, h => by
    unfold pk
    rw [pk_iff ags qs r (i + 1) _ (by omega), List.any_cons]
    cases c : ags.any (couldW w.f1) with
    | false => simp
    | true =>
      simp only [if_true, Bool.true_or, or_true, iff_true]
      left
      split
      · split <;> omega
      · exact h
theorem pk_lt (ags : List S41) (qs : List S70) : ∀ (l : List S70) (i u : Int), u < i → pk ags qs l i u < i + l.length
  | [], i, u, h => by simpa [pk] using h
  | w :: r, i, u, h => by
    unfold pk
    have q := pk_lt ags qs r (i + 1) (if ags.any (couldW w.f1) = true then (if u ≥ 0 then (if keeps w (rd_T70 qs u) = true then u else i) else i) else u) (by
      split
      · split
        · split <;> omega
        · omega
      · omega)
    simp only [List.length_cons]
    omega
section
variable (pop : Int → Int) (n : Int) (ags : List S41) (qs : List S70) (g : Int)
def nextV : Int × Int × Bool := if pk ags qs qs 0 (-1) < 0 then (0, 0, false) else (pk ags qs qs 0 (-1), tkGo pop ags (rd_T70 qs (pk ags qs qs 0 (-1))).f1 ags 0 (-1), true)
theorem next_l1 (hpi : ∀ x, bits_OnesCount.f (IntKind.u64.wrap x) = some (pop x)) (hl : (ags.length : Int) ≤ 1048576) (u : Int) (hu0 : 0 ≤ u) (hu1 : u < (qs.length : Int)) (d : Nat) : ∀ (i b : Int), 0 ≤ i → (ags.length : Int) - i = d → b < (ags.length : Int) →
    Ev (fun k => impl_Desk_next.l1 k u b ags (ags.length : Int) i n ags qs g) (u, tkGo pop ags (rd_T70 qs u).f1 (ags.drop i.toNat) i b, true) := by
  induction d with
  | zero =>
    intro i b h0 hd hb
    rw [List.drop_eq_nil_iff.2 (show ags.length ≤ i.toNat by omega)]
    refine Ev.step (f := fun _ => some (u, b, true)) (fun k => by simp only [impl_Desk_next.l1]; rw [if_neg (by omega)]) (Ev.now _)
  | succ d ih =>
    intro i b h0 hd hb
    have ei : wrap64 (i + 1) = i + 1 := w64 (by omega)
    have hi1 : i < (ags.length : Int) := by omega
    rw [drop41 ags i h0 hi1]
    unfold tkGo
    refine Ev.step (fun k => by simp only [impl_Desk_next.l1, ei, could_impl, hpi, Option.bind_some]; rw [if_pos hi1, if_pos h0, if_pos hi1, if_pos hu0, if_pos hu1]) ?_
    cases hc : couldW (rd_T70 qs u).f1 (rd_T41 ags i) with
    | false =>
      simp only [Bool.false_eq_true, if_false]
      exact ih (i + 1) b (by omega) (by omega) hb
    | true =>
      simp only [if_true]
      by_cases cb : b ≥ 0
      · rw [if_neg (show ¬ b < 0 by omega)]
        simp only [cb, if_true, hb, show (0 ≤ b) = True from eq_true cb]
        unfold better
        generalize pop (rd_T41 ags i).f0 = P
        generalize pop (rd_T41 ags b).f0 = Q
        by_cases c1 : P > Q
        · have q1 : ¬ P < Q := by omega
          have q2 : ¬ P = Q := by omega
          simp only [c1, if_true, q1, q2, decide_false, Bool.false_or, Bool.false_and, Bool.false_eq_true, if_false]
          exact ih (i + 1) b (by omega) (by omega) hb
        · simp only [c1, if_false]
          by_cases c2 : P = Q
          · have q1 : ¬ P < Q := by omega
            simp only [c2, if_true, Int.lt_irrefl, decide_false, decide_true, Bool.false_or, Bool.true_and, decide_eq_true_eq]
            by_cases c3 : (rd_T41 ags i).f2 ≥ (rd_T41 ags b).f2
            · rw [if_neg (show ¬ (rd_T41 ags i).f2 < (rd_T41 ags b).f2 by omega)]
              simp only [c3, if_true]
              exact ih (i + 1) b (by omega) (by omega) hb
            · rw [if_pos (show (rd_T41 ags i).f2 < (rd_T41 ags b).f2 by omega)]
              simp only [c3, if_false]
              exact ih (i + 1) i (by omega) (by omega) hi1
          · have q1 : P < Q := by omega
            simp only [c2, if_false, q1, decide_true, Bool.true_or, if_true]
            exact ih (i + 1) i (by omega) (by omega) hi1
      · rw [if_pos (show b < 0 by omega)]
        simp only [cb, if_false]
        exact ih (i + 1) i (by omega) (by omega) hi1
theorem next_l0 (hpi : ∀ x, bits_OnesCount.f (IntKind.u64.wrap x) = some (pop x)) (hl : (ags.length : Int) ≤ 1048576) (hm : (qs.length : Int) ≤ 1048576) (d : Nat) : ∀ (i u : Int), 0 ≤ i → (qs.length : Int) - i = d → u < (qs.length : Int) → ∀ v, v = pk ags qs (qs.drop i.toNat) i u → v < (qs.length : Int) →
    Ev (fun k => impl_Desk_next.l0 k u qs (qs.length : Int) i n ags qs g) (if v < 0 then (0, 0, false) else (v, tkGo pop ags (rd_T70 qs v).f1 ags 0 (-1), true)) := by
  induction d with
  | zero =>
    intro i u h0 hd hu v hv hv2
    rw [List.drop_eq_nil_iff.2 (show qs.length ≤ i.toNat by omega)] at hv
    unfold pk at hv
    subst hv
    refine Ev.step (fun k => by simp only [impl_Desk_next.l0]; rw [if_neg (by omega)]) ?_
    by_cases c : v < 0
    · simp only [c, if_true]; exact Ev.now _
    · simp only [c, if_false]
      have := next_l1 pop n ags qs g hpi hl v (by omega) hu ags.length 0 (-1) (by omega) (by omega) (by omega)
      simpa using this
  | succ d ih =>
    intro i u h0 hd hu v hv hv2
    have ei : wrap64 (i + 1) = i + 1 := w64 (by omega)
    have hi1 : i < (qs.length : Int) := by omega
    rw [drop70 qs i h0 hi1] at hv
    unfold pk at hv
    refine Ev.step (fun k => by simp only [impl_Desk_next.l0, ei, impl_Desk_next_2.f, p_eq, Option.bind_some]; rw [if_pos hi1, if_pos h0, if_pos hi1]) ?_
    cases hc : ags.any (couldW (rd_T70 qs i).f1) with
    | false =>
      rw [hc] at hv
      simp only [Bool.false_eq_true, if_false] at hv ⊢
      exact ih (i + 1) u (by omega) (by omega) hu v hv hv2
    | true =>
      rw [hc] at hv
      simp only [if_true] at hv ⊢
      by_cases cu : u ≥ 0
      · simp only [cu, if_true, hu, show (0 ≤ u) = True from eq_true cu] at hv ⊢
        unfold keeps at hv
        by_cases c1 : (rd_T70 qs i).f2 < (rd_T70 qs u).f2
        · simp only [c1, if_true, decide_true, Bool.true_or] at hv ⊢
          exact ih (i + 1) u (by omega) (by omega) hu v hv hv2
        · simp only [c1, if_false, decide_false, Bool.false_or] at hv ⊢
          by_cases c2 : (rd_T70 qs i).f2 = (rd_T70 qs u).f2
          · simp only [c2, if_true, decide_true, Bool.true_and, decide_eq_true_eq] at hv ⊢
            by_cases c3 : (rd_T70 qs i).f3 ≥ (rd_T70 qs u).f3
            · simp only [c3, if_true] at hv ⊢
              exact ih (i + 1) u (by omega) (by omega) hu v hv hv2
            · simp only [c3, if_false] at hv ⊢
              exact ih (i + 1) i (by omega) (by omega) hi1 v hv hv2
          · simp only [c2, if_false, decide_false, Bool.false_and, Bool.false_eq_true] at hv ⊢
            exact ih (i + 1) i (by omega) (by omega) hi1 v hv hv2
      · simp only [cu, if_false] at hv ⊢
        exact ih (i + 1) i (by omega) (by omega) hi1 v hv hv2
theorem next_ev (hpi : ∀ x, bits_OnesCount.f (IntKind.u64.wrap x) = some (pop x)) (hl : (ags.length : Int) ≤ 1048576) (hm : (qs.length : Int) ≤ 1048576) : Ev (fun k => impl_Desk_next.f k n ags qs g) (nextV pop ags qs) := by
  refine Ev.congr (fun k => by unfold impl_Desk_next.f; rfl) ?_
  by_cases h : 0 < qs.length
  · exact next_l0 pop n ags qs g hpi hl hm qs.length 0 (-1) (by omega) (by omega) (by omega) (pk ags qs qs 0 (-1)) (by simp) (by have := pk_lt ags qs qs 0 (-1) (by omega); omega)
  · have e : qs = [] := List.length_eq_zero_iff.1 (by omega)
    subst e
    refine Ev.step (f := fun _ => some (0, 0, false)) (fun k => ?_) (Ev.now _)
    simp [impl_Desk_next.l0]
theorem next_is : (nextV pop ags qs).2.2 = qs.any (fun w => ags.any (couldW w.f1)) := by
  unfold nextV
  have h := pk_iff ags qs qs 0 (-1) (by omega)
  by_cases c : pk ags qs qs 0 (-1) < 0
  · rw [if_pos c]
    cases q : qs.any (fun w => ags.any (couldW w.f1)) with
    | false => rfl
    | true => exact absurd (h.2 (Or.inr q)) (by omega)
  · rw [if_neg c]
    rcases h.1 (by omega) with q | q
    · omega
    · rw [q]
end
theorem has_f (l : List Int) (x : Int) : runtime_boundsError_RuntimeError.f l x = some (decide (x ∈ l)) := rfl
theorem nd_congr2 (l s t : List Int) (h0 : ∀ x ∈ l, 0 ≤ x) (h : ∀ x, 0 ≤ x → (x ∈ s ↔ x ∈ t)) : nd s l = nd t l := nd_cong l s t fun x hx => h x (h0 x hx)
theorem bz_nn : ∀ l : List S41, ∀ x ∈ bz l, 0 ≤ x
  | [], x, h => by simp [bz] at h
  | a :: r, x, h => by
    unfold bz at h
    split at h
    · rename_i c
      rcases List.mem_cons.1 h with h | h
      · subst h; exact c
      · exact bz_nn r x h
    · exact bz_nn r x h
section
variable (n : Int) (ags : List S41) (qs : List S70) (g : Int)
def allFree : Bool := qs.all (free ags)
theorem all_both (p q : S70 → Bool) : ∀ l : List S70, l.all (fun w => p w && q w) = (l.all p && l.all q)
  | [] => rfl
  | a :: r => by
    rw [List.all_cons, List.all_cons, List.all_cons, all_both p q r]
    cases p a <;> cases q a <;> simp
theorem free_not (pop : Int → Int) : (!(nextV pop ags qs).2.2) = allFree ags qs := by
  rw [next_is]
  unfold allFree free
  induction qs with
  | nil => rfl
  | cons w r ih => simp only [List.any_cons, List.all_cons, Bool.not_or, ih]
theorem queue_impl (hl : (ags.length : Int) ≤ 400000) (hm : (qs.length : Int) ≤ 400000) (d : Nat) : ∀ (i : Int) (c : List Int), 0 ≤ i → (qs.length : Int) - i = d → (c.length : Int) + d ≤ 1048576 →
    Ev (fun k => impl_DeskOk.l1 k c qs (qs.length : Int) i n ags qs g) ((qs.drop i.toNat).all (goodW n) && (nd c ((qs.drop i.toNat).map (·.f0)) && allFree ags qs)) := by
  obtain ⟨pop, hpi⟩ := popI
  induction d with
  | zero =>
    intro i c h0 hd hc
    rw [List.drop_eq_nil_iff.2 (show qs.length ≤ i.toNat by omega)]
    refine Ev.step (fun k => by simp only [impl_DeskOk.l1]; rw [if_neg (by omega)]) (Ev.bind (next_ev pop n ags qs g hpi (by omega) (by omega)) ?_)
    rw [free_not]
    simpa [nd] using Ev.now _
  | succ d ih =>
    intro i c h0 hd hc
    have ei : wrap64 (i + 1) = i + 1 := w64 (by omega)
    have hi1 : i < (qs.length : Int) := by omega
    rw [drop70 qs i h0 hi1]
    generalize hw : rd_T70 qs i = w
    have N : Ev (fun _ : Nat => some false) false := Ev.now _
    refine Ev.step (fun k => by simp only [impl_DeskOk.l1, ei, in_i, sk_impl, has_f, Option.bind_some, hw]; rw [if_pos hi1, if_pos h0, if_pos hi1]) ?_
    simp only [all_cons_and, List.map_cons]
    rw [show goodW n w = (inV w.f0 0 1000000000 && (skV w.f1 && (inV w.f2 0 9 && inV w.f3 0 n))) from rfl, show nd c (w.f0 :: (qs.drop (i + 1).toNat).map (·.f0)) = (!decide (w.f0 ∈ c) && nd (c ++ [w.f0]) ((qs.drop (i + 1).toNat).map (·.f0))) from rfl]
    have hc2 : c.length < 17592186044416 := by omega
    have IH := ih (i + 1) (c ++ [w.f0]) (by omega) (by omega) (by simp; omega)
    cases c1 : inV w.f0 0 1000000000 with
    | false => simp only [Bool.false_and, Bool.false_eq_true, if_false]; exact N
    | true =>
      simp only [Bool.true_and, if_true]
      cases c0 : decide (w.f0 ∈ c) with
      | true => simp only [if_true, Bool.not_true, Bool.false_and, Bool.and_false]; exact N
      | false =>
        simp only [Bool.false_eq_true, if_false, Bool.not_false, Bool.true_and]
        cases c2 : skV w.f1 with
        | false => simp only [Bool.false_and, Bool.false_eq_true, if_false]; exact N
        | true =>
          simp only [Bool.true_and, if_true]
          cases c3 : inV w.f2 0 9 with
          | false => simp only [Bool.false_and, Bool.false_eq_true, if_false]; exact N
          | true =>
            simp only [Bool.true_and, if_true]
            cases c4 : inV w.f3 0 n with
            | false => simp only [Bool.false_and, Bool.false_eq_true, if_false]; exact N
            | true =>
              simp only [Bool.true_and, if_true, hc2]
              exact IH
theorem agents_impl (hl : (ags.length : Int) ≤ 400000) (hm : (qs.length : Int) ≤ 400000) (d : Nat) : ∀ (i : Int) (c s : List Int), 0 ≤ i → (ags.length : Int) - i = d → (c.length : Int) ≤ i → (∀ x, 0 ≤ x → (x ∈ c ↔ x ∈ s)) →
    Ev (fun k => impl_DeskOk.l0 k c ags (ags.length : Int) i n ags qs g) ((ags.drop i.toNat).all (goodA n) && (qs.all (goodW n) && (nd s (bz (ags.drop i.toNat) ++ qs.map (·.f0)) && allFree ags qs))) := by
  induction d with
  | zero =>
    intro i c s h0 hd hc hs
    rw [List.drop_eq_nil_iff.2 (show ags.length ≤ i.toNat by omega)]
    refine Ev.step (fun k => by simp only [impl_DeskOk.l0]; rw [if_neg (by omega)]) ?_
    have := queue_impl n ags qs g hl hm qs.length 0 c (by omega) (by omega) (by omega)
    have e : (qs.all (goodW n) && (nd s (qs.map (·.f0)) && allFree ags qs)) = (qs.all (goodW n) && (nd c (qs.map (·.f0)) && allFree ags qs)) := by
      cases q : qs.all (goodW n) with
      | false => rfl
      | true =>
        rw [nd_congr2 (qs.map (·.f0)) s c (fun x hx => by
          obtain ⟨w, hw, rfl⟩ := List.mem_map.1 hx
          have h := List.all_eq_true.1 q w hw
          unfold goodW at h
          simp only [Bool.and_eq_true] at h
          exact (inV_iff.1 h.1).1) (fun x hx => (hs x hx).symm)]
    simp only [bz, List.nil_append, List.all_nil, Bool.true_and]
    rw [e]
    simpa using this
  | succ d ih =>
    intro i c s h0 hd hc hs
    have ei : wrap64 (i + 1) = i + 1 := w64 (by omega)
    have hi1 : i < (ags.length : Int) := by omega
    rw [drop41 ags i h0 hi1, all_cons_and]
    unfold bz
    generalize hw : rd_T41 ags i = a
    have N : Ev (fun _ : Nat => some false) false := Ev.now _
    have hc2 : c.length < 17592186044416 := by omega
    refine Ev.step (fun k => by simp only [impl_DeskOk.l0, ei, in_i, has_f, Option.bind_some, hw]; rw [if_pos hi1, if_pos h0, if_pos hi1]) ?_
    rw [show goodA n a = (inV a.f0 0 255 && (inV a.f1 (-1) 1000000000 && inV a.f2 0 n)) from rfl]
    cases c1 : inV a.f0 0 255 with
    | false => simp only [Bool.false_and, Bool.false_eq_true, if_false]; exact N
    | true =>
      simp only [Bool.true_and, if_true]
      cases c2 : inV a.f1 (-1) 1000000000 with
      | false => simp only [Bool.false_and, Bool.false_eq_true, if_false]; exact N
      | true =>
        simp only [Bool.true_and, if_true]
        cases c3 : inV a.f2 0 n with
        | false => simp only [Bool.false_and, Bool.false_eq_true, if_false]; exact N
        | true =>
          simp only [Bool.true_and, if_true, hc2]
          by_cases c4 : a.f1 ≥ 0
          · simp only [c4, if_true, List.cons_append]
            rw [show nd s (a.f1 :: (bz (ags.drop (i + 1).toNat) ++ qs.map (·.f0))) = (!decide (a.f1 ∈ s) && nd (s ++ [a.f1]) (bz (ags.drop (i + 1).toNat) ++ qs.map (·.f0))) from rfl, ← show decide (a.f1 ∈ c) = decide (a.f1 ∈ s) by simp only [hs a.f1 c4]]
            cases c0 : decide (a.f1 ∈ c) with
            | true => simp only [if_true, Bool.not_true, Bool.false_and, Bool.and_false]; exact N
            | false =>
              simp only [Bool.false_eq_true, if_false, Bool.not_false, Bool.true_and]
              exact ih (i + 1) (c ++ [a.f1]) (s ++ [a.f1]) (by omega) (by omega) (by simp; omega) (fun x hx => by simp only [List.mem_append, List.mem_singleton, hs x hx])
          · simp only [c4, if_false]
            exact ih (i + 1) (c ++ [a.f1]) s (by omega) (by omega) (by simp; omega) (fun x hx => by
              simp only [List.mem_append, List.mem_singleton, hs x hx]
              exact ⟨fun q => q.elim id fun q => by omega, Or.inl⟩)
theorem desk_impl (hl : (ags.length : Int) ≤ 1048576) (hm : (qs.length : Int) ≤ 1048576) : Ev (fun k => impl_DeskOk.f k n ags qs g) (deskV n ags qs g) := by
  have J : Ev (fun k => impl_DeskOk.j0 k true n ags qs g) false := Ev.step (f := fun _ => some false) (fun k => by simp only [impl_DeskOk.j0, if_true]) (Ev.now _)
  refine Ev.congr (fun k => by unfold impl_DeskOk.f; simp only [in_i, Option.bind_some]; rfl) ?_
  unfold deskV
  by_cases c1 : inV n 0 1000000000 = true
  · simp only [c1, if_true, Bool.true_and]
    by_cases c2 : inV (ags.length : Int) 1 12 = true
    · simp only [c2, if_true, Bool.true_and]
      have hc2 := inV_iff.1 c2
      by_cases c3 : (qs.length : Int) > 40
      · simp only [c3, if_true, decide_true, Bool.not_true, Bool.false_and]; exact J
      · simp only [c3, if_false, decide_false, Bool.not_false, Bool.true_and]
        by_cases c4 : inV g 0 1000000 = true
        · simp only [c4, Bool.not_true, Bool.true_and]
          refine Ev.step (fun k => by simp only [impl_DeskOk.j0, Bool.false_eq_true, if_false]; rfl) ?_
          have := agents_impl n ags qs g (by omega) (by omega) ags.length 0 [] [] (by omega) (by omega) (by simp) (fun _ _ => Iff.rfl)
          rw [all_both]
          have e : (ags.all (goodA n) && (qs.all (goodW n) && qs.all (free ags) && nd [] (bz ags ++ qs.map (·.f0)))) = (ags.all (goodA n) && (qs.all (goodW n) && (nd [] (bz ags ++ qs.map (·.f0)) && allFree ags qs))) := by
            unfold allFree
            cases ags.all (goodA n) <;> cases qs.all (goodW n) <;> cases qs.all (free ags) <;> cases nd [] (bz ags ++ qs.map (·.f0)) <;> rfl
          rw [e]
          simpa using this
        · simp only [Bool.not_eq_true] at c4; simp only [c4, Bool.not_false, Bool.false_and]; exact J
    · simp only [Bool.not_eq_true] at c2; simp only [c2, Bool.false_eq_true, if_false, Bool.false_and]; exact J
  · simp only [Bool.not_eq_true] at c1; simp only [c1, Bool.false_eq_true, if_false, Bool.false_and]; exact J
end

theorem ixN (p : S70 → Bool) : ∀ (l : List S70) (j : Int), l.any p = false → impl_DoDesk_2.ix p l j = -1
  | [], _, _ => rfl
  | x :: r, j, h => by
    rw [List.any_cons, Bool.or_eq_false_iff] at h
    rw [impl_DoDesk_2.ix, h.1, if_neg (by decide), ixN p r _ h.2]
section
variable (n : Int) (ags : List S41) (qs : List S70) (g : Int)
theorem own_f (hl : (ags.length : Int) ≤ 1048576) (hm : (qs.length : Int) ≤ 1048576) : impl_ownDesk.f n ags qs g = some (n, ags, qs, g) := by
  have h1 : impl_Agent.f ags = some ags := by unfold impl_Agent.f; rw [if_pos (by omega)]
  have h2 : impl_Waiting.f qs = some qs := by unfold impl_Waiting.f; rw [if_pos (by omega)]
  simp only [impl_ownDesk.f, h1, h2, Option.bind_some]
/-- A call that comes to a desk in order: what is left is the giving. -/
theorem call_ev (hl : (ags.length : Int) ≤ 1048576) (hm : (qs.length : Int) ≤ 1048576) (hV : deskV n ags qs g = true) {t c : Int} (h0 : n ≤ t) (h1 : t ≤ 1000000000) (hc0 : 0 ≤ c) (hc1 : c ≤ 1000000000)
    (hq : qs.any (fun w => decide (w.f0 = c)) = false) (ha : ags.any (fun a => decide (a.f1 = c)) = false) {r : Int × List S41 × List S70 × Int × List Int × Int}
    (h : Ev (fun k => impl_DoDesk.l0 k [] t ags (qs ++ [⟨c, 4, 2, t⟩]) g n ags qs g) r) : Ev (fun k => impl_DoDesk.f k n ags qs g 1 t c 4 2) r := by
  have e1 : inV t n 1000000000 = true := inV_iff.2 ⟨h0, h1⟩
  have e2 : inV 1 1 4 = true := by decide
  have e3 : inV c 0 1000000000 = true := inV_iff.2 ⟨hc0, hc1⟩
  have e4 : inV 2 0 9 = true := by decide
  have e5 : skV 4 = true := by kernel_rfl
  have f2 : impl_DoDesk_2.f qs 1 t c 4 2 = some (-1) := by
    unfold impl_DoDesk_2.f
    rw [ixN _ qs 0 (by simpa [impl_DoDesk_2.p] using hq)]
  have f3 : impl_DoDesk_3.f ags 1 t c 4 2 = some false := by
    unfold impl_DoDesk_3.f
    rw [show ags.any (impl_DoDesk_3.p 1 t c 4 2) = false from by simpa [impl_DoDesk_3.p] using ha]
  refine Ev.congr (fun k => by unfold impl_DoDesk.f; rw [own_f n ags qs g hl hm]; simp only [Option.bind_some]; rfl) (Ev.bind (desk_impl n ags qs g hl hm) ?_)
  rw [hV]
  simp only [if_true, in_i, e1, e2, Option.bind_some]
  refine Ev.step (fun k => by simp only [impl_DoDesk.j0, f2, Option.bind_some, if_true, in_i, e3, e4, e5, sk_impl, f3]; rfl) ?_
  simp only [Bool.not_false]
  refine Ev.step (f := fun k => impl_DoDesk.j2 k t ags (qs ++ [⟨c, 4, 2, t⟩]) g n ags qs g) (fun k => by
    simp only [impl_DoDesk.j1, if_true]
    rw [if_pos (show (-1 : Int) < 0 by decide), if_pos (by omega)]) ?_
  exact Ev.step (fun k => by simp only [impl_DoDesk.j2]) h
/-- An agent who ends a call: what is left is the giving. -/
theorem end_ev (hl : (ags.length : Int) ≤ 1048576) (hm : (qs.length : Int) ≤ 1048576) (hV : deskV n ags qs g = true) {t : Int} (h0 : n ≤ t) (h1 : t ≤ 1000000000) (hb : 0 ≤ (rd_T41 ags 0).f1) {r : Int × List S41 × List S70 × Int × List Int × Int}
    (h : Ev (fun k => impl_DoDesk.l0 k [] t (ags.set 0 ⟨(rd_T41 ags 0).f0, -1, t⟩) qs g n ags qs g) r) : Ev (fun k => impl_DoDesk.f k n ags qs g 3 t 0 0 0) r := by
  have e1 : inV t n 1000000000 = true := inV_iff.2 ⟨h0, h1⟩
  have e2 : inV 3 1 4 = true := by decide
  have hA : 1 ≤ (ags.length : Int) := by
    unfold deskV at hV
    simp only [Bool.and_eq_true] at hV
    exact (inV_iff.1 hV.2.1).1
  have e3 : inV 0 0 (wrap64 ((ags.length : Int) - 1)) = true := by
    rw [w64 (by omega)]; exact inV_iff.2 ⟨by omega, by omega⟩
  obtain ⟨i2, f2⟩ : ∃ i, impl_DoDesk_2.f qs 3 t 0 0 0 = some i := ⟨_, rfl⟩
  have hS : ((ags.set 0 ⟨(rd_T41 ags 0).f0, -1, (rd_T41 ags 0).f2⟩).set 0 ⟨(rd_T41 (ags.set 0 ⟨(rd_T41 ags 0).f0, -1, (rd_T41 ags 0).f2⟩) 0).f0, (rd_T41 (ags.set 0 ⟨(rd_T41 ags 0).f0, -1, (rd_T41 ags 0).f2⟩) 0).f1, t⟩ : List S41) = ags.set 0 ⟨(rd_T41 ags 0).f0, -1, t⟩ := by
    cases ags with
    | nil => simp at hA
    | cons a r => simp [rd_T41]
  refine Ev.congr (fun k => by unfold impl_DoDesk.f; rw [own_f n ags qs g hl hm]; simp only [Option.bind_some]; rfl) (Ev.bind (desk_impl n ags qs g hl hm) ?_)
  rw [hV]
  simp only [if_true, in_i, e1, e2, Option.bind_some]
  refine Ev.step (f := fun k => impl_DoDesk.j1 k true i2 n ags qs g 3 t 0 0 0 n ags qs g) (fun k => by simp [impl_DoDesk.j0, f2, Option.bind_some]) ?_
  refine Ev.step (f := fun k => impl_DoDesk.j2 k t (ags.set 0 ⟨(rd_T41 ags 0).f0, -1, t⟩) qs g n ags qs g) (fun k => by
    simp only [impl_DoDesk.j1, if_true, in_i, e3, Option.bind_some]
    rw [if_neg (by decide), if_neg (by decide), if_pos (by omega), if_pos (by omega), if_neg (by decide), if_neg (by omega)]
    simp only [Int.toNat_zero]
    rw [hS]) ?_
  exact Ev.step (fun k => by simp only [impl_DoDesk.j2]) h
variable (pop : Int → Int)
/-- Where nobody can be given, the giving ends. -/
theorem give_stop (hpi : ∀ x, bits_OnesCount.f (IntKind.u64.wrap x) = some (pop x)) (hl : (ags.length : Int) ≤ 1048576) (hm : (qs.length : Int) ≤ 40) (hg : g ≤ 1000000) (hn : qs.any (fun w => ags.any (couldW w.f1)) = false) (x : List Int) (n' : Int) (ags' : List S41) (qs' : List S70) (g' : Int) :
    Ev (fun k => impl_DoDesk.l0 k x n ags qs g n' ags' qs' g') (n, ags, qs, g, x, 0) := by
  refine Ev.step (fun k => by simp only [impl_DoDesk.l0]; rfl) (Ev.bind (next_ev pop n ags qs g hpi hl (by omega)) ?_)
  have h2 := (next_is pop ags qs).trans hn
  refine Ev.congr (f := fun _ => some (n, ags, qs, g, x, 0)) (fun k => ?_) (Ev.now _)
  rw [if_neg (by rw [h2]; decide), if_neg (by omega), if_neg (by omega)]
/-- One agent of skill 4, free; the first of the queue is given. -/
theorem give_one (hpi : ∀ x, bits_OnesCount.f (IntKind.u64.wrap x) = some (pop x)) (hm : (qs.length : Int) ≤ 100) (s : Int) (w : S70) (hw : w.f1 = 4) (hq : ∀ v ∈ qs, v.f1 = 4 ∧ v.f2 = w.f2 ∧ w.f3 ≤ v.f3) (x : List Int) (hx : x.length ≤ 1048576) (hg : 0 ≤ g ∧ g ≤ 1000000) (n' : Int) (ags' : List S41) (qs' : List S70) (g' : Int) {r : Int × List S41 × List S70 × Int × List Int × Int}
    (h : Ev (fun k => impl_DoDesk.l0 k (x ++ [w.f0]) n [⟨4, w.f0, n⟩] qs (g + 1) n' ags' qs' g') r) :
    Ev (fun k => impl_DoDesk.l0 k x n [⟨4, -1, s⟩] (w :: qs) g n' ags' qs' g') r := by
  have hc : ∀ v : S70, v.f1 = 4 → couldW v.f1 (⟨4, -1, s⟩ : S41) = true := by
    intro v hv; rw [hv]; kernel_rfl
  have hpk : ∀ (l : List S70) (i : Int), 0 ≤ i → (∀ v ∈ l, v.f1 = 4 ∧ v.f2 = w.f2 ∧ w.f3 ≤ v.f3) → pk [⟨4, -1, s⟩] (w :: qs) l i 0 = 0 := by
    intro l
    induction l with
    | nil => intro i _ _; rfl
    | cons v r ih =>
      intro i hi hr
      obtain ⟨h1, h2, h3⟩ := hr v (by simp)
      have hk : keeps v (rd_T70 (w :: qs) 0) = true := by
        unfold keeps; simp [rd_T70, h2, h3]
      unfold pk
      rw [if_pos (by simp [hc v h1]), if_pos (by decide), if_pos hk]
      exact ih (i + 1) (by omega) (fun v hv => hr v (by simp [hv]))
  have hp : pk [⟨4, -1, s⟩] (w :: qs) (w :: qs) 0 (-1) = 0 := by
    unfold pk
    rw [if_pos (by simp [hc w hw]), if_neg (by decide)]
    exact hpk qs 1 (by decide) hq
  have ht : tkGo pop [⟨4, -1, s⟩] w.f1 [⟨4, -1, s⟩] 0 (-1) = 0 := by
    unfold tkGo
    rw [if_pos (hc w hw), if_pos (by decide)]; rfl
  have hN : nextV pop [⟨4, -1, s⟩] (w :: qs) = (0, 0, true) := by
    unfold nextV
    rw [hp, if_neg (by decide), show rd_T70 (w :: qs) 0 = w from rfl, ht]
  refine Ev.step (fun k => by simp only [impl_DoDesk.l0]; rfl) (Ev.bind (next_ev pop n [⟨4, -1, s⟩] (w :: qs) g hpi (by simp) (by simp; omega)) ?_)
  rw [hN]
  refine Ev.congr (fun k => ?_) h
  have e1 : wrap64 (0 + 1) = 1 := by unfold wrap64; omega
  have e2 : wrap64 (g + 1) = g + 1 := w64 (by omega)
  simp only [e1, e2]
  rw [if_pos trivial, if_pos (by decide), if_pos (by simp only [List.length_cons, List.length_nil]; omega), if_pos (by decide), if_pos (by simp only [List.length_cons, List.length_nil]; omega)]
  simp only [Option.bind_some]
  rw [if_pos (by omega), if_pos (by simp only [List.length_cons, List.length_nil]; omega), if_pos (by decide), if_pos (by simp only [List.length_cons, List.length_nil]; omega)]
  rfl
end

/-- Callers c, c+1, .. of skill 4 and priority 2, whose ticks never fall. -/
def row : Int → Int → Int → List S70 → Prop
  | _, lo, hi, [] => lo ≤ hi
  | c, lo, hi, w :: r => w.f0 = c ∧ w.f1 = 4 ∧ w.f2 = 2 ∧ lo ≤ w.f3 ∧ row (c + 1) w.f3 hi r
theorem row_le : ∀ (q : List S70) (c lo hi : Int), row c lo hi q → lo ≤ hi
  | [], _, _, _, h => h
  | w :: r, c, lo, hi, h => Int.le_trans h.2.2.2.1 (row_le r _ _ _ h.2.2.2.2)
theorem row_later : ∀ (q : List S70) (c lo hi t : Int), row c lo hi q → hi ≤ t → row c lo t q
  | [], _, _, _, _, h, ht => Int.le_trans h ht
  | w :: r, c, lo, hi, t, h, ht => ⟨h.1, h.2.1, h.2.2.1, h.2.2.2.1, row_later r _ _ _ _ h.2.2.2.2 ht⟩
theorem row_app : ∀ (q : List S70) (c lo hi t : Int), row c lo hi q → hi ≤ t → row c lo t (q ++ [⟨c + q.length, 4, 2, t⟩])
  | [], c, lo, hi, t, h, ht => ⟨by simp, rfl, rfl, Int.le_trans h ht, Int.le_refl t⟩
  | w :: r, c, lo, hi, t, h, ht => by
    have q := row_app r (c + 1) w.f3 hi t h.2.2.2.2 ht
    have e : c + ((w :: r).length : Int) = c + 1 + (r.length : Int) := by simp only [List.length_cons]; omega
    rw [e]
    exact ⟨h.1, h.2.1, h.2.2.1, h.2.2.2.1, q⟩
theorem row_mem : ∀ (q : List S70) (c lo hi : Int), row c lo hi q → ∀ v ∈ q, v.f1 = 4 ∧ v.f2 = 2 ∧ lo ≤ v.f3 ∧ v.f3 ≤ hi ∧ c ≤ v.f0 ∧ v.f0 < c + q.length
  | [], _, _, _, _, v, hv => by simp at hv
  | w :: r, c, lo, hi, h, v, hv => by
    obtain ⟨h0, h1, h2, h3, h4⟩ := h
    have hle := row_le r _ _ _ h4
    rcases List.mem_cons.1 hv with rfl | hv
    · refine ⟨h1, h2, h3, hle, by omega, ?_⟩
      simp only [List.length_cons]; omega
    · obtain ⟨g1, g2, g3, g4, g5, g6⟩ := row_mem r _ _ _ h4 v hv
      refine ⟨g1, g2, by omega, g4, by omega, ?_⟩
      simp only [List.length_cons]; omega
theorem nd_row : ∀ (q : List S70) (s : List Int) (c lo hi : Int), row c lo hi q → (∀ x ∈ s, x < c) → nd s (q.map (·.f0)) = true
  | [], _, _, _, _, _, _ => rfl
  | w :: r, s, c, lo, hi, h, hs => by
    obtain ⟨h0, h1, h2, h3, h4⟩ := h
    have hn : ¬ w.f0 ∈ s := fun hm => by have := hs _ hm; omega
    simp only [List.map_cons, nd, hn, decide_false, Bool.not_false, Bool.true_and]
    refine nd_row r (s ++ [w.f0]) (c + 1) w.f3 hi h4 ?_
    intro x hx
    rcases List.mem_append.1 hx with hx | hx
    · have := hs _ hx; omega
    · simp at hx; omega
/-- A desk of one agent who is at call b, with a row of callers behind. -/
theorem desk_row (n b s g c lo : Int) (q : List S70) (hn0 : 0 ≤ n) (hn1 : n ≤ 1000000000) (hb0 : 0 ≤ b) (hb1 : b < c) (hs0 : 0 ≤ s) (hs1 : s ≤ n) (hg0 : 0 ≤ g) (hg1 : g ≤ 1000000) (hq : row c lo n q) (hlo : 0 ≤ lo) (hl : (q.length : Int) ≤ 40) (hc : c + q.length ≤ 1000000000) :
    deskV n [⟨4, b, s⟩] q g = true := by
  have hA : goodA n ⟨4, b, s⟩ = true := by
    unfold goodA; simp only [Bool.and_eq_true, inV_iff]; omega
  have hQ : q.all (fun w => goodW n w && free [⟨4, b, s⟩] w) = true := by
    rw [List.all_eq_true]
    intro v hv
    obtain ⟨g1, g2, g3, g4, g5, g6⟩ := row_mem q c lo n hq v hv
    have hf : free [⟨4, b, s⟩] v = true := by
      unfold free couldW; simp; omega
    have hk : skV v.f1 = true := by rw [g1]; kernel_rfl
    unfold goodW
    simp only [hf, hk, Bool.and_eq_true, inV_iff, Bool.true_and, and_true]
    omega
  have hN : nd [] (bz [⟨4, b, s⟩] ++ q.map (·.f0)) = true := by
    have e : bz [(⟨4, b, s⟩ : S41)] = [b] := by unfold bz bz; rw [if_pos hb0]
    rw [e]
    simp only [List.cons_append, List.nil_append, nd, List.not_mem_nil, decide_false, Bool.not_false, Bool.true_and]
    exact nd_row q [b] c lo n hq (by simp; omega)
  unfold deskV
  rw [hQ, hN]
  simp only [List.all_cons, List.all_nil, hA, Bool.and_true, Bool.and_eq_true, inV_iff, List.length_cons, List.length_nil, Bool.not_eq_true', decide_eq_false_iff_not]
  omega
theorem desk_free (n s g : Int) (hn0 : 0 ≤ n) (hn1 : n ≤ 1000000000) (hs0 : 0 ≤ s) (hs1 : s ≤ n) (hg0 : 0 ≤ g) (hg1 : g ≤ 1000000) : deskV n [⟨4, -1, s⟩] [] g = true := by
  have hA : goodA n ⟨4, -1, s⟩ = true := by
    unfold goodA; simp only [Bool.and_eq_true, inV_iff]; omega
  have hN : nd [] (bz [⟨4, -1, s⟩] ++ ([] : List S70).map (·.f0)) = true := by rfl
  unfold deskV
  rw [hN]
  simp only [List.all_cons, List.all_nil, hA, Bool.and_true, Bool.and_eq_true, inV_iff, List.length_cons, List.length_nil, Bool.not_eq_true', decide_eq_false_iff_not]
  omega

theorem busy_none (b s : Int) (q : List S70) (hb : 0 ≤ b) : q.any (fun w => ([⟨4, b, s⟩] : List S41).any (couldW w.f1)) = false := by
  rw [List.any_eq_false]
  intro v _
  simp only [List.any_cons, List.any_nil, Bool.or_false, couldW, Bool.and_eq_true, decide_eq_true_eq, not_and]
  omega
/-- The first call is given at once. -/
theorem first_call (n s t c : Int) (hn0 : 0 ≤ n) (hs0 : 0 ≤ s) (hs1 : s ≤ n) (h0 : n ≤ t) (h1 : t ≤ 1000000000) (hc0 : 0 ≤ c) (hc1 : c ≤ 1000000000) :
    Ev (fun k => impl_DoDesk.f k n [⟨4, -1, s⟩] [] 0 1 t c 4 2) (t, [⟨4, c, t⟩], [], 1, [c], 0) := by
  obtain ⟨pop, hpi⟩ := popI
  refine call_ev n [⟨4, -1, s⟩] [] 0 (by simp) (by simp) (desk_free n s 0 hn0 (by omega) hs0 hs1 (by omega) (by omega)) h0 h1 hc0 hc1 (by simp) (by simp; omega) ?_
  refine give_one t [] 0 pop hpi (by simp) s ⟨c, 4, 2, t⟩ rfl (by simp) [] (by simp) (by omega) n _ _ _ ?_
  exact give_stop t [⟨4, c, t⟩] [] 1 pop hpi (by simp) (by simp) (by omega) (by simp) [c] n _ _ _
/-- A further call stands behind. -/
theorem next_call (n b s t c lo g : Int) (q : List S70) (hn0 : 0 ≤ n) (hb0 : 0 ≤ b) (hb1 : b < c) (hs0 : 0 ≤ s) (hs1 : s ≤ n) (hg0 : 0 ≤ g) (hg1 : g ≤ 1000000) (hq : row c lo n q) (hlo : 0 ≤ lo) (hl : (q.length : Int) ≤ 30) (hc : c + q.length ≤ 1000000000) (h0 : n ≤ t) (h1 : t ≤ 1000000000) :
    Ev (fun k => impl_DoDesk.f k n [⟨4, b, s⟩] q g 1 t (c + q.length) 4 2) (t, [⟨4, b, s⟩], q ++ [⟨c + q.length, 4, 2, t⟩], g, [], 0) := by
  obtain ⟨pop, hpi⟩ := popI
  refine call_ev n [⟨4, b, s⟩] q g (by simp) (by omega) (desk_row n b s g c lo q hn0 (by omega) hb0 hb1 hs0 hs1 hg0 hg1 hq hlo (by omega) hc) h0 h1 (by omega) hc ?_ (by simp; omega) ?_
  · rw [List.any_eq_false]
    intro v hv
    have := row_mem q c lo n hq v hv
    simp only [decide_eq_true_eq]
    omega
  · exact give_stop t [⟨4, b, s⟩] _ g pop hpi (by simp) (by simp only [List.length_append, List.length_cons, List.length_nil]; omega) hg1 (busy_none b s _ hb0) [] n _ _ _
/-- The end of a call: the first of the row is given. -/
theorem end_next (n b s t c lo g : Int) (w : S70) (q : List S70) (hn0 : 0 ≤ n) (hb0 : 0 ≤ b) (hb1 : b < c) (hs0 : 0 ≤ s) (hs1 : s ≤ n) (hg0 : 0 ≤ g) (hg1 : g < 1000000) (hq : row c lo n (w :: q)) (hlo : 0 ≤ lo) (hl : ((w :: q).length : Int) ≤ 30) (hc : c + (w :: q).length ≤ 1000000000) (h0 : n ≤ t) (h1 : t ≤ 1000000000) :
    Ev (fun k => impl_DoDesk.f k n [⟨4, b, s⟩] (w :: q) g 3 t 0 0 0) (t, [⟨4, c, t⟩], q, g + 1, [c], 0) := by
  obtain ⟨pop, hpi⟩ := popI
  have hw := hq
  obtain ⟨e0, e1, e2, e3, e4⟩ := hw
  have hl2 : (q.length : Int) ≤ 30 := by simp only [List.length_cons] at hl; omega
  refine end_ev n [⟨4, b, s⟩] (w :: q) g (by simp) (by omega) (desk_row n b s g c lo (w :: q) hn0 (by omega) hb0 hb1 hs0 hs1 hg0 (by omega) hq hlo (by omega) hc) h0 h1 hb0 ?_
  have hs : ([⟨4, b, s⟩] : List S41).set 0 ⟨(rd_T41 [⟨4, b, s⟩] 0).f0, -1, t⟩ = [⟨4, -1, t⟩] := rfl
  rw [hs, ← e0]
  refine give_one t q g pop hpi (by omega) t w e1 (fun v hv => ?_) [] (by simp) (by omega) n _ _ _ ?_
  · obtain ⟨g1, g2, g3, _⟩ := row_mem q (c + 1) w.f3 n e4 v hv
    exact ⟨g1, by rw [g2, e2], g3⟩
  · exact give_stop t [⟨4, w.f0, t⟩] q (g + 1) pop hpi (by simp) (by omega) (by omega) (busy_none w.f0 t q (by omega)) [w.f0] n _ _ _
/-- The end of the last call. -/
theorem end_last (n b s t g : Int) (hn0 : 0 ≤ n) (hb0 : 0 ≤ b) (hb1 : b < 1000000000) (hs0 : 0 ≤ s) (hs1 : s ≤ n) (hg0 : 0 ≤ g) (hg1 : g < 1000000) (h0 : n ≤ t) (h1 : t ≤ 1000000000) :
    Ev (fun k => impl_DoDesk.f k n [⟨4, b, s⟩] [] g 3 t 0 0 0) (t, [⟨4, -1, t⟩], [], g, [], 0) := by
  obtain ⟨pop, hpi⟩ := popI
  refine end_ev n [⟨4, b, s⟩] [] g (by simp) (by simp) (desk_row n b s g (b + 1) 0 [] hn0 (by omega) hb0 (by omega) hs0 hs1 hg0 (by omega) hn0 (by omega) (by simp) (by simp; omega)) h0 h1 hb0 ?_
  have hs : ([⟨4, b, s⟩] : List S41).set 0 ⟨(rd_T41 [⟨4, b, s⟩] 0).f0, -1, t⟩ = [⟨4, -1, t⟩] := rfl
  rw [hs]
  exact give_stop t [⟨4, -1, t⟩] [] g pop hpi (by simp) (by simp) (by omega) (by simp) [] n _ _ _

/-- 100, 101, .. -/
def asks (l : List Int) : Prop := ∀ k : Nat, k < l.length → l[k]? = some (100 + (k : Int))
theorem asks_app {l : List Int} {c : Int} (h : asks l) (hc : c = 100 + (l.length : Int)) : asks (l ++ [c]) := by
  intro k hk
  simp only [List.length_append, List.length_cons, List.length_nil] at hk
  by_cases h1 : k < l.length
  · rw [List.getElem?_append_left h1]; exact h k h1
  · have : k = l.length := by omega
    subst this
    rw [List.getElem?_append_right (Nat.le_refl _), Nat.sub_self, hc]; rfl
section
variable (N : Int)
theorem look (l : List Int) (now : Int) (ags : List S41) (g : Int) (ha : asks l) (hl : (l.length : Int) = N) (hN : N ≤ 1000) (d : Nat) : ∀ i : Int, 0 ≤ i → (l.length : Int) - i = d → Ev (fun k => laws_FnTurns8.l2 k N l i now ags [] g) true := by
  induction d with
  | zero =>
    intro i h0 hd
    refine Ev.step (f := fun _ => some true) (fun k => ?_) (Ev.now _)
    simp only [laws_FnTurns8.l2]
    rw [if_neg (by omega), if_pos hl]; rfl
  | succ d ih =>
    intro i h0 hd
    refine Ev.step (f := fun k => laws_FnTurns8.l2 k N l (i + 1) now ags [] g) (fun k => ?_) (ih (i + 1) (by omega) (by omega))
    have e := rd_at l i h0 (by omega)
    rw [ha i.toNat (by omega)] at e
    have e2 : rd l i = 100 + i := by
      have := Option.some.inj e; omega
    simp only [laws_FnTurns8.l2]
    rw [if_pos (by omega), if_pos h0, e2, w64 (x := 100 + i) (by omega), w64 (x := i + 1) (by omega), if_pos rfl]
theorem ends (tick : Int) (ht0 : 0 ≤ tick) (ht1 : tick ≤ 1000000) (hN0 : 1 ≤ N) (hN1 : N ≤ 12) (d : Nat) : ∀ (j now s lo g : Int) (q : List S70) (given : List Int), 0 ≤ j → N - 1 - j = d → 0 ≤ now → now ≤ tick + j → 0 ≤ s → s ≤ now → 0 ≤ lo → row (101 + j) lo now q → (q.length : Int) = N - 1 - j → g = 1 + j → asks given → (given.length : Int) = j + 1 →
    Ev (fun k => laws_FnTurns8.l1 k tick N given j now [⟨4, 100 + j, s⟩] q g) true := by
  induction d with
  | zero =>
    intro j now s lo g q given hj hd hn0 hn1 hs0 hs1 hlo hq hl hg ha hgl
    have hq0 : q = [] := List.eq_nil_of_length_eq_zero (by omega)
    subst hq0
    refine Ev.step (fun k => by simp only [laws_FnTurns8.l1]; rw [if_pos (by omega), w64 (x := tick + j) (by omega)]) (Ev.bind (end_last now (100 + j) s (tick + j) g hn0 (by omega) (by omega) hs0 hs1 (by omega) (by omega) hn1 (by omega)) ?_)
    simp only [List.append_nil, List.length_nil, Nat.add_zero]
    refine Ev.congr (fun k => by rw [if_pos trivial, if_pos (by omega), w64 (x := j + 1) (by omega)]) ?_
    refine Ev.step (f := fun k => laws_FnTurns8.l2 k N given 0 (tick + j) [⟨4, -1, tick + j⟩] [] g) (fun k => by simp only [laws_FnTurns8.l1]; rw [if_neg (by omega)]) ?_
    exact look N given (tick + j) _ g ha (by omega) (by omega) given.length 0 (by omega) (by omega)
  | succ d ih =>
    intro j now s lo g q given hj hd hn0 hn1 hs0 hs1 hlo hq hl hg ha hgl
    cases q with
    | nil => simp at hl; omega
    | cons w q =>
      have hl2 : (q.length : Int) = N - 1 - (j + 1) := by simp only [List.length_cons] at hl; omega
      refine Ev.step (fun k => by simp only [laws_FnTurns8.l1]; rw [if_pos (by omega), w64 (x := tick + j) (by omega)]) (Ev.bind (end_next now (100 + j) s (tick + j) (101 + j) lo g w q hn0 (by omega) (by omega) hs0 hs1 (by omega) (by omega) hq hlo (by omega) (by omega) hn1 (by omega)) ?_)
      simp only [List.length_cons, List.length_nil]
      refine Ev.congr (fun k => by rw [if_pos trivial, if_pos (by omega), w64 (x := j + 1) (by omega)]) ?_
      obtain ⟨_, _, _, e3, e4⟩ := hq
      have h := ih (j + 1) (tick + j) (tick + j) w.f3 (g + 1) q (given ++ [101 + j]) (by omega) (by omega) (by omega) (by omega) (by omega) (by omega) (by omega) (by rw [show (101 : Int) + (j + 1) = 101 + j + 1 by omega]; exact row_later q _ _ _ _ e4 hn1) hl2 (by omega) (asks_app ha (by omega)) (by simp only [List.length_append, List.length_cons, List.length_nil]; omega)
      rw [show (100 : Int) + (j + 1) = 101 + j by omega] at h
      exact h
theorem calls (l : List Int) (hb : ∀ y ∈ l, 0 ≤ y ∧ y ≤ 255) (hl : (l.length : Int) ≤ 1048576) (hN0 : 1 ≤ N) (hN1 : N ≤ 12) (d : Nat) : ∀ (i tick s lo : Int) (q : List S70), 1 ≤ i → N - i = d → 0 ≤ tick → tick ≤ 3 * i → 0 ≤ s → s ≤ tick → 0 ≤ lo → row 101 lo tick q → (q.length : Int) = i - 1 →
    Ev (fun k => laws_FnTurns8.l0 k l tick N [100] i tick [⟨4, 100, s⟩] q 1) true := by
  induction d with
  | zero =>
    intro i tick s lo q hi hd ht0 ht1 hs0 hs1 hlo hq hql
    refine Ev.step (f := fun k => laws_FnTurns8.l1 k tick N [100] 0 tick [⟨4, 100, s⟩] q 1) (fun k => by simp only [laws_FnTurns8.l0]; rw [if_neg (by omega)]) ?_
    have ha : asks [100] := by
      intro k hk
      have : k = 0 := by simp at hk; omega
      subst this; rfl
    exact ends N tick ht0 (by omega) hN0 hN1 (N - 1).toNat 0 tick s lo 1 q [100] (by omega) (by omega) ht0 (by omega) hs0 hs1 hlo hq (by omega) (by omega) ha (by simp)
  | succ d ih =>
    intro i tick s lo q hi hd ht0 ht1 hs0 hs1 hlo hq hql
    obtain ⟨b, hb1, hb2, hb3⟩ := at_ok l (i + 1) hl hb (by omega) (by omega)
    have hm0 : 0 ≤ Int.tmod b 3 := Int.tmod_nonneg _ hb2
    have hm1 : Int.tmod b 3 < 3 := Int.tmod_lt_of_pos _ (by decide)
    obtain ⟨m, hm⟩ : ∃ m, Int.tmod b 3 = m := ⟨_, rfl⟩
    rw [hm] at hm0 hm1
    refine Ev.step (f := fun k => (impl_DoDesk.f k tick [⟨4, 100, s⟩] q 1 1 (tick + m) (101 + q.length) 4 2).bind fun bt239 => (if bt239.2.2.2.2.2 = 0 then (if [100].length + bt239.2.2.2.2.1.length < 17592186044416 then (laws_FnTurns8.l0 k l (tick + m) N ([100] ++ bt239.2.2.2.2.1) (i + 1) bt239.1 bt239.2.1 bt239.2.2.1 bt239.2.2.2.1) else (none)) else (some false))) (fun k => ?_) ?_
    · simp only [laws_FnTurns8.l0]
      rw [if_pos (by omega), w64 (x := i + 1) (by omega), hb1]
      simp only [Option.bind_some, hm]
      rw [w64 (x := tick + m) (by omega), w64 (x := 100 + i) (by omega), show 100 + i = 101 + (q.length : Int) by omega]
      rfl
    · refine Ev.bind (next_call tick 100 s (tick + m) 101 lo 1 q ht0 (by decide) (by decide) hs0 hs1 (by decide) (by decide) hq hlo (by omega) (by omega) (by omega) (by omega)) ?_
      refine Ev.congr (f := fun k => laws_FnTurns8.l0 k l (tick + m) N [100] (i + 1) (tick + m) [⟨4, 100, s⟩] (q ++ [⟨101 + q.length, 4, 2, tick + m⟩]) 1) (fun k => by simp) ?_
      exact ih (i + 1) (tick + m) s lo (q ++ [⟨101 + q.length, 4, 2, tick + m⟩]) (by omega) (by omega) (by omega) (by omega) hs0 (by omega) hlo (row_app q 101 lo tick (tick + m) hq (by omega)) (by simp only [List.length_append, List.length_cons, List.length_nil]; omega)
end

theorem FnTurns8 : SFnTurns8.Pure := by
  intro l0 h
  have hb : ∀ y ∈ l0, 0 ≤ y ∧ y ≤ 255 := fun y hy => u8_range (h.1 y hy)
  apply Ev.rounds
  by_cases c : (l0.length : Int) > 1048576
  · refine Ev.congr (f := fun _ => some true) (fun k => ?_) (Ev.now _)
    unfold laws_FnTurns8.f
    rw [big_eq, Option.bind_some, decide_eq_true c, if_pos rfl]
  · obtain ⟨b, hb1, hb2, hb3⟩ := at_ok l0 0 (by omega) hb (by omega) (by omega)
    have hn0 : 0 ≤ Int.tmod b 12 := Int.tmod_nonneg _ hb2
    have hn1 : Int.tmod b 12 < 12 := Int.tmod_lt_of_pos _ (by decide)
    obtain ⟨u, hu⟩ : ∃ u, Int.tmod b 12 = u := ⟨_, rfl⟩
    rw [hu] at hn0 hn1
    obtain ⟨x, hx1, hx2, hx3⟩ := at_ok l0 (0 + 1) (by omega) hb (by omega) (by omega)
    have hm0 : 0 ≤ Int.tmod x 3 := Int.tmod_nonneg _ hx2
    have hm1 : Int.tmod x 3 < 3 := Int.tmod_lt_of_pos _ (by decide)
    obtain ⟨m, hm⟩ : ∃ m, Int.tmod x 3 = m := ⟨_, rfl⟩
    rw [hm] at hm0 hm1
    refine Ev.congr (f := fun k => laws_FnTurns8.l0 k l0 0 (1 + u) [] 0 0 [⟨4, -1, 0⟩] [] 0) (fun k => ?_) ?_
    · unfold laws_FnTurns8.f
      rw [big_eq, Option.bind_some, decide_eq_false c, if_neg (by decide), hb1, Option.bind_some, hu, w64 (x := 1 + u) (by omega)]
    refine Ev.step (f := fun k => (impl_DoDesk.f k 0 [⟨4, -1, 0⟩] [] 0 1 m 100 4 2).bind fun bt239 => (if bt239.2.2.2.2.2 = 0 then (if ([] : List Int).length + bt239.2.2.2.2.1.length < 17592186044416 then (laws_FnTurns8.l0 k l0 m (1 + u) ([] ++ bt239.2.2.2.2.1) 1 bt239.1 bt239.2.1 bt239.2.2.1 bt239.2.2.2.1) else (none)) else (some false))) (fun k => ?_) ?_
    · simp only [laws_FnTurns8.l0]
      rw [if_pos (by omega), w64 (x := 0 + 1) (by omega), hx1]
      simp only [Option.bind_some, hm]
      rw [w64 (x := 0 + m) (by omega), w64 (x := 100 + 0) (by omega), show 0 + m = m by omega]
      rfl
    · refine Ev.bind (first_call 0 0 m 100 (by decide) (by decide) (by decide) hm0 (by omega) (by decide) (by decide)) ?_
      refine Ev.congr (f := fun k => laws_FnTurns8.l0 k l0 m (1 + u) [100] 1 m [⟨4, 100, m⟩] [] 1) (fun k => by simp) ?_
      exact calls (1 + u) l0 hb (by omega) (by omega) (by omega) u.toNat 1 m m 0 [] (by decide) (by omega) hm0 (by omega) hm0 (Int.le_refl _) (by decide) hm0 (by simp)

end Go.Proofs.Ytllgjohkkahfgaa.Pure
