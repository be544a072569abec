/- Served of the program and of the reference agree at every desk and call, and leave the desk as it was. No condition. -/
import Derived.Test.YtllgjohkkahfgaaSFnExactServed
set_option linter.unusedVariables false
set_option linter.unusedSimpArgs false
namespace Go.Proofs.Ytllgjohkkahfgaa.Pure
open Go.RowKit Go.Proofs.Ytllgjohkkahfgaa.PFnExactServed Go.Proofs.Ytllgjohkkahfgaa.SFnExactServed Go.Proofs.YtllgjohkkahfgaaW.PrintWords Go.Proofs.YtllgjohkkahfgaaW.PrintLast Go.Proofs.YtllgjohkkahfgaaW.PrintMore
theorem w64 {x : Int} (h : -9000000000000000000 ≤ x ∧ x ≤ 9000000000000000000) : wrap64 x = x := by unfold wrap64; omega
theorem rd_at (l : List Int) (i : Int) (h0 : 0 ≤ i) (h1 : i < l.length) : l[i.toNat]? = some (rd l i) := by
  simp [rd, List.getD_eq_getElem?_getD, List.getElem?_eq_getElem (show i.toNat < l.length by omega)]

theorem gen_to {α β : Type} (l : List α) (hl : (l.length : Int) ≤ 1048576) (F : Nat → List β → Int → Option (List β)) (g : Int → β)
    (hF : ∀ k m i, 0 ≤ i → i < (l.length : Int) → i < (m.length : Int) → F (k + 1) m i = F k (m.set i.toNat (g i)) (wrap64 (i + 1))) (hE : ∀ k m i, ¬ i < (l.length : Int) → F (k + 1) m i = some m)
    (G : α → β) (hg : ∀ (i : Nat) (h : i < l.length), g i = G l[i]) (d : Nat) : ∀ (i : Int) (m : List β), 0 ≤ i → i ≤ l.length → (l.length : Int) - i = d → m.length = l.length →
    (∀ j : Nat, (j : Int) < i → m[j]? = (l.map G)[j]?) → Ev (fun k => F k m i) (l.map G) := by
  induction d with
  | zero =>
    intro i m h0 h1 hd hm hp
    refine Ev.step (f := fun _ => some (l.map G)) (fun k => ?_) (Ev.now _)
    rw [hE k m i (by omega)]
    congr 1
    apply List.ext_getElem?
    intro j
    by_cases hj : j < l.length
    · exact hp j (by omega)
    · rw [List.getElem?_eq_none (by omega), List.getElem?_eq_none (by simp; omega)]
  | succ d ih =>
    intro i m h0 h1 hd hm hp
    have ei : wrap64 (i + 1) = i + 1 := w64 (by omega)
    refine Ev.step (fun k => ?_) (ih (i + 1) (m.set i.toNat (g i)) (by omega) (by omega) (by omega) (by simpa using hm) ?_)
    · rw [hF k m i h0 (by omega) (by omega), ei]
    · intro j hj
      by_cases e : j = i.toNat
      · subst e
        rw [List.getElem?_set_self (by omega), List.getElem?_map, List.getElem?_eq_getElem (show i.toNat < l.length by omega)]
        have := hg i.toNat (by omega)
        rw [Int.toNat_of_nonneg h0] at this
        rw [this]
        rfl
      · rw [List.getElem?_set_ne (by omega)]
        exact hp j (by omega)
theorem gen_eq {n : Nat} (hl : (n : Int) ≤ 1048576) (F : Nat → Int → Option Bool) (hF : ∀ k i, 0 ≤ i → i < (n : Int) → F (k + 1) i = F k (wrap64 (i + 1))) (hE : ∀ k i, ¬ i < (n : Int) → F (k + 1) i = some true)
    (d : Nat) : ∀ (i : Int), 0 ≤ i → i ≤ n → (n : Int) - i = d → Ev (fun k => F k i) true := by
  induction d with
  | zero =>
    intro i h0 h1 hd
    exact Ev.step (f := fun _ => some true) (fun k => hE k i (by omega)) (Ev.now _)
  | succ d ih =>
    intro i h0 h1 hd
    have ei : wrap64 (i + 1) = i + 1 := w64 (by omega)
    refine Ev.step (fun k => ?_) (ih (i + 1) (by omega) (by omega) (by omega))
    rw [hF k i h0 (by omega), ei]
theorem getD_at {α : Type} (l : List α) (z : α) (i : Nat) (h : i < l.length) : l.getD i z = l[i] := by simp [List.getD_eq_getElem?_getD, h]

theorem in_spec (a b c : Int) : spec_l1In.f a b c = some (decide (b ≤ a) && decide (a ≤ c)) := by
  unfold spec_l1In.f
  by_cases q : a ≥ b
  · rw [if_pos q]; simp [q]
  · rw [if_neg q]; simp [q]
theorem in_impl (a b c : Int) : impl_in.f a b c = some (decide (b ≤ a) && decide (a ≤ c)) := by
  unfold impl_in.f
  by_cases q : a ≥ b
  · rw [if_pos q]; simp [q]
  · rw [if_neg q]; simp [q]
def inV (a b c : Int) : Bool := decide (b ≤ a) && decide (a ≤ c)
theorem in_s (a b c : Int) : spec_l1In.f a b c = some (inV a b c) := in_spec a b c
theorem in_i (a b c : Int) : impl_in.f a b c = some (inV a b c) := in_impl a b c
theorem tick_spec (a : Int) : spec_l4Tick.f a = some (inV a 0 1000000000) := by simp only [spec_l4Tick.f, in_s, Option.bind_some]
theorem drop41 (l : List S41) (i : Int) (h0 : 0 ≤ i) (h1 : i < (l.length : Int)) : l.drop i.toNat = rd_T41 l i :: l.drop (i + 1).toNat := by
  rw [List.drop_eq_getElem_cons (show i.toNat < l.length by omega)]
  congr 1
  · simp [rd_T41, List.getD_eq_getElem?_getD, List.getElem?_eq_getElem (show i.toNat < l.length by omega)]
  · congr 1; omega
theorem drop70 (l : List S70) (i : Int) (h0 : 0 ≤ i) (h1 : i < (l.length : Int)) : l.drop i.toNat = rd_T70 l i :: l.drop (i + 1).toNat := by
  rw [List.drop_eq_getElem_cons (show i.toNat < l.length by omega)]
  congr 1
  · simp [rd_T70, List.getD_eq_getElem?_getD, List.getElem?_eq_getElem (show i.toNat < l.length by omega)]
  · congr 1; omega
theorem dropI (l : List Int) (i : Int) (h0 : 0 ≤ i) (h1 : i < (l.length : Int)) : l.drop i.toNat = rd l i :: l.drop (i + 1).toNat := by
  rw [List.drop_eq_getElem_cons (show i.toNat < l.length by omega)]
  congr 1
  · simp [rd, List.getD_eq_getElem?_getD, List.getElem?_eq_getElem (show i.toNat < l.length by omega)]
  · congr 1; omega
theorem mem41 (l : List S41) (i : Int) (h0 : 0 ≤ i) (h1 : i < (l.length : Int)) : rd_T41 l i ∈ l := by
  have e : rd_T41 l i = l[i.toNat]'(by omega) := by simp [rd_T41, List.getD_eq_getElem?_getD, List.getElem?_eq_getElem (show i.toNat < l.length by omega)]
  rw [e]
  exact List.getElem_mem _
def p1 (x : Int) : Int := IntKind.u64.wrap ((Go.bits .and .u64 (x / 2) 6148914691236517205) + (Go.bits .and .u64 x 6148914691236517205))
def p2 (x : Int) : Int := IntKind.u64.wrap ((Go.bits .and .u64 (x / 4) 3689348814741910323) + (Go.bits .and .u64 x 3689348814741910323))
def p3 (x : Int) : Int := Go.bits .and .u64 (IntKind.u64.wrap ((x / 16) + x)) 1085102592571150095
def p4 (x : Int) : Int := IntKind.u64.wrap (x + (x / 256))
def p5 (x : Int) : Int := IntKind.u64.wrap (x + (x / 65536))
def p6 (x : Int) : Int := IntKind.u64.wrap (x + (x / 4294967296))
def p7 (x : Int) : Int := Go.bits .and .i64 (wrap64 x) 127
/-- How many skills. -/
def pop0 (x : Int) : Int := p7 (p6 (p5 (p4 (p3 (p2 (p1 (IntKind.u64.wrap x)))))))
theorem pop_impl (x : Int) : bits_OnesCount.f (IntKind.u64.wrap x) = some (pop0 x) := by
  unfold bits_OnesCount.f bits_OnesCount64.f pop0 p7 p6 p5 p4 p3 p2 p1
  rfl
def n1 (n : Nat) : Nat := (n / 2 &&& 85) + (n &&& 85)
def n2 (n : Nat) : Nat := (n / 4 &&& 51) + (n &&& 51)
def n3 (n : Nat) : Nat := (n / 16 + n) &&& 3855
theorem pop_nat (n : Nat) (h : n < 256) : pop0 (n : Int) = (n3 (n2 (n1 n)) : Nat) := by
  have k0 : ∀ n : Nat, n < 256 → IntKind.u64.wrap (n : Int) = (n : Nat) := by decide +kernel
  have k1 : ∀ n : Nat, n < 256 → p1 (n : Int) = (n1 n : Nat) := by decide +kernel
  have k2 : ∀ n : Nat, n < 256 → p2 (n : Int) = (n2 n : Nat) := by decide +kernel
  have k3 : ∀ n : Nat, n < 256 → p3 (n : Int) = (n3 n : Nat) := by decide +kernel
  have k4 : ∀ n : Nat, n < 256 → p4 (n : Int) = (n : Nat) := by decide +kernel
  have k5 : ∀ n : Nat, n < 256 → p5 (n : Int) = (n : Nat) := by decide +kernel
  have k6 : ∀ n : Nat, n < 256 → p6 (n : Int) = (n : Nat) := by decide +kernel
  have k7 : ∀ n : Nat, n < 128 → p7 (n : Int) = (n : Nat) := by decide +kernel
  have b1 : ∀ n : Nat, n < 256 → n1 n < 256 := by decide +kernel
  have b2 : ∀ n : Nat, n < 256 → n2 n < 256 := by decide +kernel
  have b3 : ∀ n : Nat, n < 256 → n3 (n2 (n1 n)) < 16 := by decide +kernel
  have c1 := b1 n h
  have c2 := b2 _ c1
  have c3 := b3 n h
  unfold pop0
  rw [k0 n h, k1 n h, k2 _ c1, k3 _ c2, k4 _ (by omega), k5 _ (by omega), k6 _ (by omega), k7 _ (by omega)]
theorem pop_spec (x : Int) (h0 : 0 ≤ x) (h1 : x ≤ 255) : Ev (fun k => spec_l8Ones.f k x) (pop0 x) := by
  have key : ∀ n : Nat, n < 256 → spec_l8Ones.f 20 (n : Int) = some ((n3 (n2 (n1 n)) : Nat) : Int) := by decide +kernel
  have h := key x.toNat (by omega)
  rw [← pop_nat x.toNat (by omega), show ((x.toNat : Nat) : Int) = x by omega] at h
  exact Ev.of (fun k => spec_l8Ones.mono x k) h
theorem popEx : ∃ pop : Int → Int, (∀ x, bits_OnesCount.f (IntKind.u64.wrap x) = some (pop x)) ∧ ∀ x, 0 ≤ x → x ≤ 255 → Ev (fun k => spec_l8Ones.f k x) (pop x) := ⟨pop0, pop_impl, pop_spec⟩
def couldW (s : Int) (a : S41) : Bool := decide (a.f1 < 0) && ((Go.bits .and .i64 a.f0 s) != 0)
def better (pop : Int → Int) (a b : S41) : Bool := decide (pop a.f0 < pop b.f0) || (decide (pop a.f0 = pop b.f0) && decide (a.f2 < b.f2))
def tkGo (pop : Int → Int) (ags : List S41) (s : Int) : List S41 → Int → Int → Int
  | [], _, b => b
  | a :: r, i, b => tkGo pop ags s r (i + 1) (if couldW s a = true then (if b < 0 then i else if better pop a (rd_T41 ags b) = true then i else b) else b)
theorem tkGo_iff (pop : Int → Int) (ags : List S41) (s : Int) : ∀ (l : List S41) (i b : Int), 0 ≤ i → (0 ≤ tkGo pop ags s l i b ↔ 0 ≤ b ∨ l.any (couldW s) = true)
  | [], i, b, h => by simp [tkGo]
  | a :: r, i, b, h => by
    unfold tkGo
    rw [tkGo_iff pop ags s r (i + 1) _ (by omega), List.any_cons]
    cases c : couldW s a with
    | false => simp
    | true =>
      simp only [if_true, Bool.true_or, or_true, iff_true]
      left
      split
      · exact h
      · split
        · exact h
        · omega
theorem tkGo_lt (pop : Int → Int) (ags : List S41) (s : Int) : ∀ (l : List S41) (i b : Int), b < i → tkGo pop ags s l i b < i + l.length
  | [], i, b, h => by simpa [tkGo] using h
  | a :: r, i, b, h => by
    unfold tkGo
    have q := tkGo_lt pop ags s r (i + 1) (if couldW s a = true then (if b < 0 then i else if better pop a (rd_T41 ags b) = true then i else b) else b) (by
      split
      · split
        · omega
        · split <;> omega
      · omega)
    simp only [List.length_cons]
    omega
theorem taker_ev (pop : Int → Int) (hps : ∀ x, 0 ≤ x → x ≤ 255 → Ev (fun k => spec_l8Ones.f k x) (pop x)) (ags : List S41) (hl : (ags.length : Int) ≤ 1048576) (hg : ∀ a ∈ ags, 0 ≤ a.f0 ∧ a.f0 ≤ 255) (n : Int) (qs : List S70) (g c s p t : Int) (d : Nat) : ∀ i b : Int, 0 ≤ i → (ags.length : Int) - i = d → b < (ags.length : Int) →
    Ev (fun k => spec_l8Taker.l0 k b i n ags qs g c s p t) (tkGo pop ags s (ags.drop i.toNat) i b) := by
  induction d with
  | zero =>
    intro i b h0 hd hb
    refine Ev.step (f := fun _ => some b) (fun k => ?_) ?_
    · simp only [spec_l8Taker.l0]
      rw [if_neg (by omega)]
    · rw [List.drop_eq_nil_iff.2 (by omega)]
      exact Ev.now _
  | succ d ih =>
    intro i b h0 hd hb
    have hi1 : i < (ags.length : Int) := by omega
    have ei : wrap64 (i + 1) = i + 1 := w64 (by omega)
    have ha := hg _ (mem41 ags i h0 hi1)
    rw [drop41 ags i h0 hi1]
    unfold tkGo
    have J : ∀ x : Bool, x = !couldW s (rd_T41 ags i) → Ev (fun k => spec_l8Taker.j1 k b i x n ags qs g c s p t (rd_T41 ags i).f0 (rd_T41 ags i).f1 (rd_T41 ags i).f2) (tkGo pop ags s (ags.drop (i + 1).toNat) (i + 1) (if couldW s (rd_T41 ags i) = true then (if b < 0 then i else if better pop (rd_T41 ags i) (rd_T41 ags b) = true then i else b) else b)) := by
      intro x hx
      cases hc : couldW s (rd_T41 ags i) with
      | false =>
        rw [hc] at hx
        subst hx
        simp only [Bool.false_eq_true, if_false]
        refine Ev.step (fun k => ?_) (ih (i + 1) b (by omega) (by omega) hb)
        simp only [spec_l8Taker.j1, Bool.not_false, if_true, ei]
      | true =>
        rw [hc] at hx
        subst hx
        simp only [if_true]
        by_cases cb : b < 0
        · rw [if_pos cb]
          refine Ev.step (fun k => ?_) (ih (i + 1) i (by omega) (by omega) hi1)
          simp only [spec_l8Taker.j1, Bool.not_true, Bool.false_eq_true, if_false, ei]
          rw [if_pos cb]
        · rw [if_neg cb]
          have hb' := hg _ (mem41 ags b (by omega) hb)
          refine Ev.step (fun k => by simp only [spec_l8Taker.j1, Bool.not_true, Bool.false_eq_true, if_false, ei]; rw [if_neg cb, if_pos (by omega), if_pos hb]) (Ev.bind (hps _ ha.1 ha.2) (Ev.bind (hps _ hb'.1 hb'.2) ?_))
          unfold better
          by_cases c1 : pop (rd_T41 ags i).f0 < pop (rd_T41 ags b).f0
          · simp only [c1, decide_true, Bool.true_or, if_true]
            exact ih (i + 1) i (by omega) (by omega) hi1
          · simp only [c1, decide_false, Bool.false_or, if_false]
            by_cases c2 : pop (rd_T41 ags i).f0 = pop (rd_T41 ags b).f0
            · simp only [c2, decide_true, Bool.true_and, if_true, decide_eq_true_eq]
              by_cases c3 : (rd_T41 ags i).f2 < (rd_T41 ags b).f2
              · simp only [c3, if_true]
                exact ih (i + 1) i (by omega) (by omega) hi1
              · simp only [c3, if_false]
                exact ih (i + 1) b (by omega) (by omega) hb
            · simp only [c2, decide_false, Bool.false_and, Bool.false_eq_true, if_false]
              exact ih (i + 1) b (by omega) (by omega) hb
    by_cases c1 : (rd_T41 ags i).f1 ≥ 0
    · refine Ev.step (fun k => ?_) (J true (by unfold couldW; rw [decide_eq_false (by omega)]; rfl))
      simp only [spec_l8Taker.l0]
      rw [if_pos hi1, if_pos h0, if_pos c1]
    · refine Ev.step (fun k => ?_) (J ((Go.bits .and .i64 (rd_T41 ags i).f0 s) == 0) (by unfold couldW; rw [decide_eq_true (by omega), Bool.true_and, bne, Bool.not_not]))
      simp only [spec_l8Taker.l0]
      rw [if_pos hi1, if_pos h0, if_neg c1]
theorem taker_f (pop : Int → Int) (hps : ∀ x, 0 ≤ x → x ≤ 255 → Ev (fun k => spec_l8Ones.f k x) (pop x)) (ags : List S41) (hl : (ags.length : Int) ≤ 1048576) (h0 : 0 < ags.length) (hg : ∀ a ∈ ags, 0 ≤ a.f0 ∧ a.f0 ≤ 255) (n : Int) (qs : List S70) (g c s p t : Int) :
    Ev (fun k => spec_l8Taker.f k n ags qs g c s p t) (tkGo pop ags s ags 0 (-1)) := by
  refine Ev.congr (fun k => by unfold spec_l8Taker.f; rfl) (taker_ev pop hps ags hl hg n qs g c s p t ags.length 0 (-1) (by omega) (by omega) (by omega))
/-- A skill. -/
def skV (x : Int) : Bool := inV x 1 128 && ((Go.bits .and .i64 x (wrap64 (x - 1))) == 0)
theorem sk_impl (x : Int) : impl_skillOk.f x = some (skV x) := by
  unfold impl_skillOk.f skV
  rw [in_i, Option.bind_some]
  cases inV x 1 128 <;> simp
theorem sk_spec (x : Int) : Ev (fun k => spec_l8Skill.f k x) (skV x) := by
  by_cases h : 1 ≤ x ∧ x ≤ 128
  · have key : ∀ n : Nat, n < 129 → 1 ≤ n → spec_l8Skill.f 20 (n : Int) = some (skV n) := by decide +kernel
    have q := key x.toNat (by omega) (by omega)
    rw [show ((x.toNat : Nat) : Int) = x by omega] at q
    exact Ev.of (fun k => spec_l8Skill.mono x k) q
  · have e : skV x = false := by
      unfold skV inV
      by_cases c : 1 ≤ x
      · rw [decide_eq_false (show ¬ x ≤ 128 by omega)]; simp
      · rw [decide_eq_false c]; simp
    rw [e]
    have q : spec_l8Skill.f 20 x = some false := by
      have s1 : wrap64 (2 * 1) = 2 := by unfold wrap64; omega
      have s2 : wrap64 (2 * 2) = 4 := by unfold wrap64; omega
      have s3 : wrap64 (2 * 4) = 8 := by unfold wrap64; omega
      have s4 : wrap64 (2 * 8) = 16 := by unfold wrap64; omega
      have s5 : wrap64 (2 * 16) = 32 := by unfold wrap64; omega
      have s6 : wrap64 (2 * 32) = 64 := by unfold wrap64; omega
      have s7 : wrap64 (2 * 64) = 128 := by unfold wrap64; omega
      have s8 : wrap64 (2 * 128) = 256 := by unfold wrap64; omega
      unfold spec_l8Skill.f
      unfold spec_l8Skill.l0; rw [if_pos (by decide), if_neg (by omega), s1]
      unfold spec_l8Skill.l0; rw [if_pos (by decide), if_neg (by omega), s2]
      unfold spec_l8Skill.l0; rw [if_pos (by decide), if_neg (by omega), s3]
      unfold spec_l8Skill.l0; rw [if_pos (by decide), if_neg (by omega), s4]
      unfold spec_l8Skill.l0; rw [if_pos (by decide), if_neg (by omega), s5]
      unfold spec_l8Skill.l0; rw [if_pos (by decide), if_neg (by omega), s6]
      unfold spec_l8Skill.l0; rw [if_pos (by decide), if_neg (by omega), s7]
      unfold spec_l8Skill.l0; rw [if_pos (by decide), if_neg (by omega), s8]
      unfold spec_l8Skill.l0; rw [if_neg (by decide)]
    exact Ev.of (fun k => spec_l8Skill.mono x k) q

def goodA (n : Int) (a : S41) : Bool := inV a.f0 0 255 && (inV a.f1 (-1) 1000000000 && inV a.f2 0 n)
def goodW (n : Int) (w : S70) : Bool := inV w.f0 0 1000000000 && (skV w.f1 && (inV w.f2 0 9 && inV w.f3 0 n))
def bz : List S41 → List Int
  | [] => []
  | a :: r => if a.f1 ≥ 0 then a.f1 :: bz r else bz r
theorem bz_len : ∀ l : List S41, (bz l).length ≤ l.length
  | [] => Nat.le_refl _
  | a :: r => by
    unfold bz
    have := bz_len r
    split <;> simp <;> omega
def nd : List Int → List Int → Bool
  | _, [] => true
  | s, x :: r => !decide (x ∈ s) && nd (s ++ [x]) r
theorem nd_cong : ∀ (l s t : List Int), (∀ x ∈ l, (x ∈ s ↔ x ∈ t)) → nd s l = nd t l
  | [], _, _, _ => rfl
  | x :: r, s, t, h => by
    unfold nd
    rw [show decide (x ∈ s) = decide (x ∈ t) by simp only [h x (List.mem_cons_self)], nd_cong r (s ++ [x]) (t ++ [x]) (fun y hy => by simp only [List.mem_append, List.mem_singleton, h y (List.mem_cons_of_mem _ hy)])]
def free (ags : List S41) (w : S70) : Bool := !ags.any (couldW w.f1)
/-- A desk ags it should be. -/
def deskV (n : Int) (ags : List S41) (qs : List S70) (g : Int) : Bool :=
  inV n 0 1000000000 && (inV (ags.length : Int) 1 12 && (!decide ((qs.length : Int) > 40) && (inV g 0 1000000 && (ags.all (goodA n) && (qs.all (fun w => goodW n w && free ags w) && nd [] (bz ags ++ qs.map (·.f0)))))))
theorem inV_iff {a b c : Int} : inV a b c = true ↔ b ≤ a ∧ a ≤ c := by unfold inV; simp
theorem within_ev (l : List Int) (x : Int) (hl : (l.length : Int) ≤ 1048576) (d : Nat) : ∀ i : Int, 0 ≤ i → (l.length : Int) - i = d → Ev (fun k => spec_l7Within.l0 k l x i) (decide (x ∈ l.drop i.toNat)) := by
  induction d with
  | zero =>
    intro i h0 hd
    refine Ev.step (f := fun _ => some false) (fun k => ?_) ?_
    · simp only [spec_l7Within.l0]; rw [if_neg (by omega)]
    · rw [List.drop_eq_nil_iff.2 (by omega)]; exact Ev.now _
  | succ d ih =>
    intro i h0 hd
    have ei : wrap64 (i + 1) = i + 1 := w64 (by omega)
    rw [dropI l i h0 (by omega)]
    by_cases c : rd l i = x
    · rw [show decide (x ∈ rd l i :: l.drop (i + 1).toNat) = true by simp [c]]
      refine Ev.step (f := fun _ => some true) (fun k => ?_) (Ev.now _)
      simp only [spec_l7Within.l0]; rw [if_pos (by omega), if_pos h0, if_pos c]
    · rw [show decide (x ∈ rd l i :: l.drop (i + 1).toNat) = decide (x ∈ l.drop (i + 1).toNat) by simp [Ne.symm c]]
      refine Ev.step (fun k => ?_) (ih (i + 1) (by omega) (by omega))
      simp only [spec_l7Within.l0, ei]; rw [if_pos (by omega), if_pos h0, if_neg c]
theorem within_f (l : List Int) (x : Int) (hl : (l.length : Int) ≤ 1048576) : Ev (fun k => spec_l7Within.f k l x) (decide (x ∈ l)) := by
  have := within_ev l x hl l.length 0 (by omega) (by omega)
  exact Ev.congr (fun k => by unfold spec_l7Within.f; rfl) this
theorem dups_ev (l : List Int) (hl : (l.length : Int) ≤ 1048576) (d : Nat) : ∀ i : Int, 0 ≤ i → (l.length : Int) - i = d → Ev (fun k => spec_DeskOk.l2 k l i) (nd (l.take i.toNat) (l.drop i.toNat)) := by
  induction d with
  | zero =>
    intro i h0 hd
    refine Ev.step (f := fun _ => some true) (fun k => ?_) ?_
    · simp only [spec_DeskOk.l2]; rw [if_neg (by omega)]
    · rw [List.drop_eq_nil_iff.2 (by omega)]; exact Ev.now _
  | succ d ih =>
    intro i h0 hd
    have ei : wrap64 (i + 1) = i + 1 := w64 (by omega)
    rw [dropI l i h0 (by omega)]
    unfold nd
    have et : l.take i.toNat ++ [rd l i] = l.take (i + 1).toNat := by
      have e : rd l i = l[i.toNat]'(by omega) := by simp [rd, List.getD_eq_getElem?_getD, List.getElem?_eq_getElem (show i.toNat < l.length by omega)]
      rw [show (i + 1).toNat = i.toNat + 1 by omega, List.take_add_one, List.getElem?_eq_getElem (show i.toNat < l.length by omega), e]
      rfl
    refine Ev.step (fun k => by simp only [spec_DeskOk.l2, ei]; rw [if_pos (by omega), if_pos h0, if_pos (by omega)]) (Ev.bind (within_f _ _ (by rw [List.length_take]; omega)) ?_)
    cases c : decide (rd l i ∈ l.take i.toNat) with
    | true => simp only [if_true, Bool.not_true, Bool.false_and]; exact Ev.now _
    | false =>
      simp only [Bool.false_eq_true, if_false, Bool.not_false, Bool.true_and, et]
      exact ih (i + 1) (by omega) (by omega)
theorem all_cons_and {α : Type} (p : α → Bool) (a : α) (r : List α) : (a :: r).all p = (p a && r.all p) := List.all_cons
section
variable (n : Int) (ags : List S41) (qs : List S70) (g : Int)
theorem queue_spec (ha : 0 < ags.length) (hl : (ags.length : Int) ≤ 1048576) (hm : (qs.length : Int) ≤ 1048576) (hg : ags.all (goodA n) = true) (d : Nat) : ∀ (i : Int) (c : List Int), 0 ≤ i → (qs.length : Int) - i = d → (c.length : Int) + d ≤ 3000000 → (c.length : Int) + d ≤ 1048576 →
    Ev (fun k => spec_DeskOk.l1 k c i n ags qs g) ((qs.drop i.toNat).all (fun w => goodW n w && free ags w) && nd [] (c ++ (qs.drop i.toNat).map (·.f0))) := by
  obtain ⟨pop, hpi, hps⟩ := popEx
  have hp : ∀ a ∈ ags, 0 ≤ a.f0 ∧ a.f0 ≤ 255 := fun a h => by
    have q := List.all_eq_true.1 hg a h
    unfold goodA at q
    simp only [Bool.and_eq_true] at q
    exact inV_iff.1 q.1
  induction d with
  | zero =>
    intro i c h0 hd _ hc
    rw [List.drop_eq_nil_iff.2 (show qs.length ≤ i.toNat by omega)]
    refine Ev.step (fun k => by simp only [spec_DeskOk.l1]; rw [if_neg (by omega)]) ?_
    simpa using dups_ev c (by omega) c.length 0 (by omega) (by omega)
  | succ d ih =>
    intro i c h0 hd hc1 hc
    have ei : wrap64 (i + 1) = i + 1 := w64 (by omega)
    rw [drop70 qs i h0 (by omega)]
    generalize hw : rd_T70 qs i = w
    have N : Ev (fun _ : Nat => some false) false := Ev.now _
    refine Ev.step (fun k => by simp only [spec_DeskOk.l1, ei, tick_spec, in_s, Option.bind_some, hw]; rw [if_pos (by omega), if_pos h0]) ?_
    simp only [all_cons_and, List.map_cons]
    rw [show goodW n w = (inV w.f0 0 1000000000 && (skV w.f1 && (inV w.f2 0 9 && inV w.f3 0 n))) from rfl]
    by_cases c1 : inV w.f0 0 1000000000 = true
    · simp only [c1, Bool.true_and, if_true]
      refine Ev.bind (sk_spec _) ?_
      by_cases c2 : skV w.f1 = true
      · simp only [c2, Bool.true_and, if_true]
        by_cases c3 : inV w.f2 0 9 = true
        · simp only [c3, Bool.true_and, if_true]
          by_cases c4 : inV w.f3 0 n = true
          · simp only [c4, Bool.true_and, if_true]
            refine Ev.bind (taker_f pop hps ags hl ha hp n qs g _ _ _ _) ?_
            by_cases c5 : ags.any (couldW w.f1) = true
            · have hT : tkGo pop ags w.f1 ags 0 (-1) ≥ 0 := (tkGo_iff pop ags w.f1 ags 0 (-1) (by omega)).2 (Or.inr c5)
              rw [show free ags w = false by unfold free; rw [c5]; rfl]
              simp only [hT, if_true, Bool.false_and]
              exact N
            · have hT : ¬ tkGo pop ags w.f1 ags 0 (-1) ≥ 0 := fun q => by
                rcases (tkGo_iff pop ags w.f1 ags 0 (-1) (by omega)).1 q with q | q
                · omega
                · exact c5 q
              rw [Bool.not_eq_true] at c5
              rw [show free ags w = true by unfold free; rw [c5]; rfl]
              have hc : c.length < 17592186044416 := by omega
              simp only [hT, if_false, hc, if_true, Bool.true_and]
              have := ih (i + 1) (c ++ [w.f0]) (by omega) (by omega) (by simp; omega) (by simp; omega)
              simpa [List.append_assoc] using this
          · simp only [Bool.not_eq_true] at c4; simp only [c4, Bool.false_and, Bool.false_eq_true, if_false]; exact N
        · simp only [Bool.not_eq_true] at c3; simp only [c3, Bool.false_and, Bool.false_eq_true, if_false]; exact N
      · simp only [Bool.not_eq_true] at c2; simp only [c2, Bool.false_and, Bool.false_eq_true, if_false]; exact N
    · simp only [Bool.not_eq_true] at c1; simp only [c1, Bool.false_and, Bool.false_eq_true, if_false]; exact N
end

section
variable (n : Int) (ags : List S41) (qs : List S70) (g : Int)
theorem agents_spec (ha : 0 < ags.length) (hl : (ags.length : Int) ≤ 400000) (hm : (qs.length : Int) ≤ 400000) (d : Nat) : ∀ (i : Int) (c : List Int), 0 ≤ i → (ags.length : Int) - i = d → (ags.take i.toNat).all (goodA n) = true → (c.length : Int) ≤ i →
    Ev (fun k => spec_DeskOk.l0 k c i n ags qs g) ((ags.drop i.toNat).all (goodA n) && (qs.all (fun w => goodW n w && free ags w) && nd [] (c ++ (bz (ags.drop i.toNat) ++ qs.map (·.f0))))) := by
  induction d with
  | zero =>
    intro i c h0 hd hg hc
    rw [List.take_of_length_le (show ags.length ≤ i.toNat by omega)] at hg
    rw [List.drop_eq_nil_iff.2 (show ags.length ≤ i.toNat by omega)]
    refine Ev.step (fun k => by simp only [spec_DeskOk.l0]; rw [if_neg (by omega)]) ?_
    have := queue_spec n ags qs g ha (by omega) (by omega) hg qs.length 0 c (by omega) (by omega) (by omega) (by omega)
    simpa [bz] using this
  | succ d ih =>
    intro i c h0 hd hg hc
    have ei : wrap64 (i + 1) = i + 1 := w64 (by omega)
    have hi1 : i < (ags.length : Int) := by omega
    have et : (ags.take (i + 1).toNat).all (goodA n) = goodA n (rd_T41 ags i) := by
      have e : rd_T41 ags i = ags[i.toNat]'(by omega) := by simp [rd_T41, List.getD_eq_getElem?_getD, List.getElem?_eq_getElem (show i.toNat < ags.length by omega)]
      rw [show (i + 1).toNat = i.toNat + 1 by omega, List.take_add_one, List.getElem?_eq_getElem (show i.toNat < ags.length by omega), List.all_append, hg, e]
      simp
    rw [drop41 ags i h0 hi1, all_cons_and]
    unfold bz
    generalize hw : rd_T41 ags i = a at *
    have J : ∀ x : Bool, x = !goodA n a → Ev (fun k => spec_DeskOk.j2 k c i x n ags qs g a.f0 a.f1 a.f2) (goodA n a && (ags.drop (i + 1).toNat).all (goodA n) && (qs.all (fun w => goodW n w && free ags w) && nd [] (c ++ ((if a.f1 ≥ 0 then a.f1 :: bz (ags.drop (i + 1).toNat) else bz (ags.drop (i + 1).toNat)) ++ qs.map (·.f0))))) := by
      intro x hx
      cases hq : goodA n a with
      | false =>
        rw [hq] at hx; subst hx
        simp only [Bool.false_and]
        refine Ev.step (f := fun _ => some false) (fun k => by simp only [spec_DeskOk.j2, Bool.not_false, if_true]) (Ev.now _)
      | true =>
        rw [hq] at hx; subst hx
        rw [hq] at et
        by_cases c1 : a.f1 ≥ 0
        · have hc2 : c.length < 17592186044416 := by omega
          refine Ev.step (fun k => by simp only [spec_DeskOk.j2, Bool.not_true, Bool.false_eq_true, if_false, c1, if_true, hc2, ei]; rfl) ?_
          have := ih (i + 1) (c ++ [a.f1]) (by omega) (by omega) et (by simp; omega)
          simpa [c1, List.append_assoc] using this
        · refine Ev.step (fun k => by simp only [spec_DeskOk.j2, Bool.not_true, Bool.false_eq_true, if_false, c1, ei]; rfl) ?_
          have := ih (i + 1) c (by omega) (by omega) et (by omega)
          simpa [c1] using this
    refine Ev.step (fun k => by simp only [spec_DeskOk.l0, in_s, Option.bind_some, hw]; rw [if_pos hi1, if_pos h0]) ?_
    unfold goodA at J
    by_cases c1 : inV a.f0 0 255 = true
    · simp only [c1, if_true]
      by_cases c2 : inV a.f1 (-1) 1000000000 = true
      · simp only [c2, if_true]
        exact J _ (by rw [c1, c2]; simp)
      · simp only [c2, Bool.false_eq_true, if_false]
        exact J _ (by simp only [Bool.not_eq_true] at c2; rw [c1, c2]; simp)
    · simp only [c1, Bool.false_eq_true, if_false]
      exact J _ (by simp only [Bool.not_eq_true] at c1; rw [c1]; simp)
theorem desk_spec (hl : (ags.length : Int) ≤ 1048576) (hm : (qs.length : Int) ≤ 1048576) : Ev (fun k => spec_DeskOk.f k n ags qs g) (deskV n ags qs g) := by
  have J : Ev (fun k => spec_DeskOk.j0 k true n ags qs g) false := Ev.step (f := fun _ => some false) (fun k => by simp only [spec_DeskOk.j0, if_true]) (Ev.now _)
  refine Ev.congr (fun k => by unfold spec_DeskOk.f; simp only [tick_spec, in_s, Option.bind_some]; rfl) ?_
  unfold deskV
  by_cases c1 : inV n 0 1000000000 = true
  · simp only [c1, if_true, Bool.true_and]
    by_cases c2 : inV (ags.length : Int) 1 12 = true
    · simp only [c2, if_true, Bool.true_and]
      have hc2 := inV_iff.1 c2
      by_cases c3 : (qs.length : Int) > 40
      · simp only [c3, if_true, decide_true, Bool.not_true, Bool.false_and]; exact J
      · simp only [c3, if_false, decide_false, Bool.not_false, Bool.true_and]
        by_cases c4 : inV g 0 1000000 = true
        · simp only [c4, Bool.not_true, Bool.true_and]
          refine Ev.step (fun k => by simp only [spec_DeskOk.j0, Bool.false_eq_true, if_false]; rfl) ?_
          have := agents_spec n ags qs g (by omega) (by omega) (by omega) ags.length 0 [] (by omega) (by omega) (by simp) (by simp)
          simpa using this
        · simp only [Bool.not_eq_true] at c4; simp only [c4, Bool.not_false, Bool.false_and]; exact J
    · simp only [Bool.not_eq_true] at c2; simp only [c2, Bool.false_eq_true, if_false, Bool.false_and]; exact J
  · simp only [Bool.not_eq_true] at c1; simp only [c1, Bool.false_eq_true, if_false, Bool.false_and]; exact J
end

theorem p_eq (b0 b1 b2 b3 : Int) : impl_Desk_next_2.p b0 b1 b2 b3 = couldW b1 := by
  funext a
  rfl
theorem could_impl (w : S70) (a : S41) : impl_Desk_next_1.f w.f0 w.f1 w.f2 w.f3 a.f0 a.f1 a.f2 = some (couldW w.f1 a) := by
  unfold impl_Desk_next_1.f couldW
  by_cases c : a.f1 < 0
  · rw [if_pos c, decide_eq_true c, Bool.true_and]
  · rw [if_neg c, decide_eq_false c, Bool.false_and]
def keeps (w v : S70) : Bool := decide (w.f2 < v.f2) || (decide (w.f2 = v.f2) && decide (w.f3 ≥ v.f3))
def pk (ags : List S41) (qs : List S70) : List S70 → Int → Int → Int
  | [], _, u => u
  | w :: r, i, u => pk ags qs r (i + 1) (if ags.any (couldW w.f1) = true then (if u ≥ 0 then (if keeps w (rd_T70 qs u) = true then u else i) else i) else u)
theorem pk_iff (ags : List S41) (qs : List S70) : ∀ (l : List S70) (i u : Int), 0 ≤ i → (0 ≤ pk ags qs l i u ↔ 0 ≤ u ∨ l.any (fun w => ags.any (couldW w.f1)) = true)
  | [], i, u, h => by simp [pk]
  | w :: r, i, u, h => by
    unfold pk
    rw [pk_iff ags qs r (i + 1) _ (by omega), List.any_cons]
    cases c : ags.any (couldW w.f1) with
    | false => simp
    | true =>
      simp only [if_true, Bool.true_or, or_true, iff_true]
      left
      split
      · split <;> omega
      · exact h
theorem pk_lt (ags : List S41) (qs : List S70) : ∀ (l : List S70) (i u : Int), u < i → pk ags qs l i u < i + l.length
  | [], i, u, h => by simpa [pk] using h
  | w :: r, i, u, h => by
    unfold pk
    have q := pk_lt ags qs r (i + 1) (if ags.any (couldW w.f1) = true then (if u ≥ 0 then (if keeps w (rd_T70 qs u) = true then u else i) else i) else u) (by
      split
      · split
        · split <;> omega
        · omega
      · omega)
    simp only [List.length_cons]
    omega
section
variable (pop : Int → Int) (n : Int) (ags : List S41) (qs : List S70) (g : Int)
def nextV : Int × Int × Bool := if pk ags qs qs 0 (-1) < 0 then (0, 0, false) else (pk ags qs qs 0 (-1), tkGo pop ags (rd_T70 qs (pk ags qs qs 0 (-1))).f1 ags 0 (-1), true)
theorem next_l1 (hpi : ∀ x, bits_OnesCount.f (IntKind.u64.wrap x) = some (pop x)) (hl : (ags.length : Int) ≤ 1048576) (u : Int) (hu0 : 0 ≤ u) (hu1 : u < (qs.length : Int)) (d : Nat) : ∀ (i b : Int), 0 ≤ i → (ags.length : Int) - i = d → b < (ags.length : Int) →
    Ev (fun k => impl_Desk_next.l1 k u b ags (ags.length : Int) i n ags qs g) (u, tkGo pop ags (rd_T70 qs u).f1 (ags.drop i.toNat) i b, true) := by
  induction d with
  | zero =>
    intro i b h0 hd hb
    rw [List.drop_eq_nil_iff.2 (show ags.length ≤ i.toNat by omega)]
    refine Ev.step (f := fun _ => some (u, b, true)) (fun k => by simp only [impl_Desk_next.l1]; rw [if_neg (by omega)]) (Ev.now _)
  | succ d ih =>
    intro i b h0 hd hb
    have ei : wrap64 (i + 1) = i + 1 := w64 (by omega)
    have hi1 : i < (ags.length : Int) := by omega
    rw [drop41 ags i h0 hi1]
    unfold tkGo
    refine Ev.step (fun k => by simp only [impl_Desk_next.l1, ei, could_impl, hpi, Option.bind_some]; rw [if_pos hi1, if_pos h0, if_pos hi1, if_pos hu0, if_pos hu1]) ?_
    cases hc : couldW (rd_T70 qs u).f1 (rd_T41 ags i) with
    | false =>
      simp only [Bool.false_eq_true, if_false]
      exact ih (i + 1) b (by omega) (by omega) hb
    | true =>
      simp only [if_true]
      by_cases cb : b ≥ 0
      · rw [if_neg (show ¬ b < 0 by omega)]
        simp only [cb, if_true, hb, show (0 ≤ b) = True from eq_true cb]
        unfold better
        generalize pop (rd_T41 ags i).f0 = P
        generalize pop (rd_T41 ags b).f0 = Q
        by_cases c1 : P > Q
        · have q1 : ¬ P < Q := by omega
          have q2 : ¬ P = Q := by omega
          simp only [c1, if_true, q1, q2, decide_false, Bool.false_or, Bool.false_and, Bool.false_eq_true, if_false]
          exact ih (i + 1) b (by omega) (by omega) hb
        · simp only [c1, if_false]
          by_cases c2 : P = Q
          · have q1 : ¬ P < Q := by omega
            simp only [c2, if_true, Int.lt_irrefl, decide_false, decide_true, Bool.false_or, Bool.true_and, decide_eq_true_eq]
            by_cases c3 : (rd_T41 ags i).f2 ≥ (rd_T41 ags b).f2
            · rw [if_neg (show ¬ (rd_T41 ags i).f2 < (rd_T41 ags b).f2 by omega)]
              simp only [c3, if_true]
              exact ih (i + 1) b (by omega) (by omega) hb
            · rw [if_pos (show (rd_T41 ags i).f2 < (rd_T41 ags b).f2 by omega)]
              simp only [c3, if_false]
              exact ih (i + 1) i (by omega) (by omega) hi1
          · have q1 : P < Q := by omega
            simp only [c2, if_false, q1, decide_true, Bool.true_or, if_true]
            exact ih (i + 1) i (by omega) (by omega) hi1
      · rw [if_pos (show b < 0 by omega)]
        simp only [cb, if_false]
        exact ih (i + 1) i (by omega) (by omega) hi1
theorem next_l0 (hpi : ∀ x, bits_OnesCount.f (IntKind.u64.wrap x) = some (pop x)) (hl : (ags.length : Int) ≤ 1048576) (hm : (qs.length : Int) ≤ 1048576) (d : Nat) : ∀ (i u : Int), 0 ≤ i → (qs.length : Int) - i = d → u < (qs.length : Int) → ∀ v, v = pk ags qs (qs.drop i.toNat) i u → v < (qs.length : Int) →
    Ev (fun k => impl_Desk_next.l0 k u qs (qs.length : Int) i n ags qs g) (if v < 0 then (0, 0, false) else (v, tkGo pop ags (rd_T70 qs v).f1 ags 0 (-1), true)) := by
  induction d with
  | zero =>
    intro i u h0 hd hu v hv hv2
    rw [List.drop_eq_nil_iff.2 (show qs.length ≤ i.toNat by omega)] at hv
    unfold pk at hv
    subst hv
    refine Ev.step (fun k => by simp only [impl_Desk_next.l0]; rw [if_neg (by omega)]) ?_
    by_cases c : v < 0
    · simp only [c, if_true]; exact Ev.now _
    · simp only [c, if_false]
      have := next_l1 pop n ags qs g hpi hl v (by omega) hu ags.length 0 (-1) (by omega) (by omega) (by omega)
      simpa using this
  | succ d ih =>
    intro i u h0 hd hu v hv hv2
    have ei : wrap64 (i + 1) = i + 1 := w64 (by omega)
    have hi1 : i < (qs.length : Int) := by omega
    rw [drop70 qs i h0 hi1] at hv
    unfold pk at hv
    refine Ev.step (fun k => by simp only [impl_Desk_next.l0, ei, impl_Desk_next_2.f, p_eq, Option.bind_some]; rw [if_pos hi1, if_pos h0, if_pos hi1]) ?_
    cases hc : ags.any (couldW (rd_T70 qs i).f1) with
    | false =>
      rw [hc] at hv
      simp only [Bool.false_eq_true, if_false] at hv ⊢
      exact ih (i + 1) u (by omega) (by omega) hu v hv hv2
    | true =>
      rw [hc] at hv
      simp only [if_true] at hv ⊢
      by_cases cu : u ≥ 0
      · simp only [cu, if_true, hu, show (0 ≤ u) = True from eq_true cu] at hv ⊢
        unfold keeps at hv
        by_cases c1 : (rd_T70 qs i).f2 < (rd_T70 qs u).f2
        · simp only [c1, if_true, decide_true, Bool.true_or] at hv ⊢
          exact ih (i + 1) u (by omega) (by omega) hu v hv hv2
        · simp only [c1, if_false, decide_false, Bool.false_or] at hv ⊢
          by_cases c2 : (rd_T70 qs i).f2 = (rd_T70 qs u).f2
          · simp only [c2, if_true, decide_true, Bool.true_and, decide_eq_true_eq] at hv ⊢
            by_cases c3 : (rd_T70 qs i).f3 ≥ (rd_T70 qs u).f3
            · simp only [c3, if_true] at hv ⊢
              exact ih (i + 1) u (by omega) (by omega) hu v hv hv2
            · simp only [c3, if_false] at hv ⊢
              exact ih (i + 1) i (by omega) (by omega) hi1 v hv hv2
          · simp only [c2, if_false, decide_false, Bool.false_and, Bool.false_eq_true] at hv ⊢
            exact ih (i + 1) i (by omega) (by omega) hi1 v hv hv2
      · simp only [cu, if_false] at hv ⊢
        exact ih (i + 1) i (by omega) (by omega) hi1 v hv hv2
theorem next_ev (hpi : ∀ x, bits_OnesCount.f (IntKind.u64.wrap x) = some (pop x)) (hl : (ags.length : Int) ≤ 1048576) (hm : (qs.length : Int) ≤ 1048576) : Ev (fun k => impl_Desk_next.f k n ags qs g) (nextV pop ags qs) := by
  refine Ev.congr (fun k => by unfold impl_Desk_next.f; rfl) ?_
  by_cases h : 0 < qs.length
  · exact next_l0 pop n ags qs g hpi hl hm qs.length 0 (-1) (by omega) (by omega) (by omega) (pk ags qs qs 0 (-1)) (by simp) (by have := pk_lt ags qs qs 0 (-1) (by omega); omega)
  · have e : qs = [] := List.length_eq_zero_iff.1 (by omega)
    subst e
    refine Ev.step (f := fun _ => some (0, 0, false)) (fun k => ?_) (Ev.now _)
    simp [impl_Desk_next.l0]
theorem next_is : (nextV pop ags qs).2.2 = qs.any (fun w => ags.any (couldW w.f1)) := by
  unfold nextV
  have h := pk_iff ags qs qs 0 (-1) (by omega)
  by_cases c : pk ags qs qs 0 (-1) < 0
  · rw [if_pos c]
    cases q : qs.any (fun w => ags.any (couldW w.f1)) with
    | false => rfl
    | true => exact absurd (h.2 (Or.inr q)) (by omega)
  · rw [if_neg c]
    rcases h.1 (by omega) with q | q
    · omega
    · rw [q]
end

theorem has_f (l : List Int) (x : Int) : runtime_boundsError_RuntimeError.f l x = some (decide (x ∈ l)) := rfl
theorem nd_congr2 (l s t : List Int) (h0 : ∀ x ∈ l, 0 ≤ x) (h : ∀ x, 0 ≤ x → (x ∈ s ↔ x ∈ t)) : nd s l = nd t l := nd_cong l s t fun x hx => h x (h0 x hx)
theorem bz_nn : ∀ l : List S41, ∀ x ∈ bz l, 0 ≤ x
  | [], x, h => by simp [bz] at h
  | a :: r, x, h => by
    unfold bz at h
    split at h
    · rename_i c
      rcases List.mem_cons.1 h with h | h
      · subst h; exact c
      · exact bz_nn r x h
    · exact bz_nn r x h
section
variable (n : Int) (ags : List S41) (qs : List S70) (g : Int)
def allFree : Bool := qs.all (free ags)
theorem all_both (p q : S70 → Bool) : ∀ l : List S70, l.all (fun w => p w && q w) = (l.all p && l.all q)
  | [] => rfl
  | a :: r => by
    rw [List.all_cons, List.all_cons, List.all_cons, all_both p q r]
    cases p a <;> cases q a <;> simp
theorem free_not (pop : Int → Int) : (!(nextV pop ags qs).2.2) = allFree ags qs := by
  rw [next_is]
  unfold allFree free
  induction qs with
  | nil => rfl
  | cons w r ih => simp only [List.any_cons, List.all_cons, Bool.not_or, ih]
/-- The queue's part as the program asks it: s are the calls met. -/
theorem queue_impl (hl : (ags.length : Int) ≤ 400000) (hm : (qs.length : Int) ≤ 400000) (d : Nat) : ∀ (i : Int) (c : List Int), 0 ≤ i → (qs.length : Int) - i = d → (c.length : Int) + d ≤ 1048576 →
    Ev (fun k => impl_DeskOk.l1 k c qs (qs.length : Int) i n ags qs g) ((qs.drop i.toNat).all (goodW n) && (nd c ((qs.drop i.toNat).map (·.f0)) && allFree ags qs)) := by
  obtain ⟨pop, hpi, hps⟩ := popEx
  induction d with
  | zero =>
    intro i c h0 hd hc
    rw [List.drop_eq_nil_iff.2 (show qs.length ≤ i.toNat by omega)]
    refine Ev.step (fun k => by simp only [impl_DeskOk.l1]; rw [if_neg (by omega)]) (Ev.bind (next_ev pop n ags qs g hpi (by omega) (by omega)) ?_)
    rw [free_not]
    simpa [nd] using Ev.now _
  | succ d ih =>
    intro i c h0 hd hc
    have ei : wrap64 (i + 1) = i + 1 := w64 (by omega)
    have hi1 : i < (qs.length : Int) := by omega
    rw [drop70 qs i h0 hi1]
    generalize hw : rd_T70 qs i = w
    have N : Ev (fun _ : Nat => some false) false := Ev.now _
    refine Ev.step (fun k => by simp only [impl_DeskOk.l1, ei, in_i, sk_impl, has_f, Option.bind_some, hw]; rw [if_pos hi1, if_pos h0, if_pos hi1]) ?_
    simp only [all_cons_and, List.map_cons]
    rw [show goodW n w = (inV w.f0 0 1000000000 && (skV w.f1 && (inV w.f2 0 9 && inV w.f3 0 n))) from rfl, show nd c (w.f0 :: (qs.drop (i + 1).toNat).map (·.f0)) = (!decide (w.f0 ∈ c) && nd (c ++ [w.f0]) ((qs.drop (i + 1).toNat).map (·.f0))) from rfl]
    have hc2 : c.length < 17592186044416 := by omega
    have IH := ih (i + 1) (c ++ [w.f0]) (by omega) (by omega) (by simp; omega)
    cases c1 : inV w.f0 0 1000000000 with
    | false => simp only [Bool.false_and, Bool.false_eq_true, if_false]; exact N
    | true =>
      simp only [Bool.true_and, if_true]
      cases c0 : decide (w.f0 ∈ c) with
      | true => simp only [if_true, Bool.not_true, Bool.false_and, Bool.and_false]; exact N
      | false =>
        simp only [Bool.false_eq_true, if_false, Bool.not_false, Bool.true_and]
        cases c2 : skV w.f1 with
        | false => simp only [Bool.false_and, Bool.false_eq_true, if_false]; exact N
        | true =>
          simp only [Bool.true_and, if_true]
          cases c3 : inV w.f2 0 9 with
          | false => simp only [Bool.false_and, Bool.false_eq_true, if_false]; exact N
          | true =>
            simp only [Bool.true_and, if_true]
            cases c4 : inV w.f3 0 n with
            | false => simp only [Bool.false_and, Bool.false_eq_true, if_false]; exact N
            | true =>
              simp only [Bool.true_and, if_true, hc2]
              exact IH
theorem agents_impl (hl : (ags.length : Int) ≤ 400000) (hm : (qs.length : Int) ≤ 400000) (d : Nat) : ∀ (i : Int) (c s : List Int), 0 ≤ i → (ags.length : Int) - i = d → (c.length : Int) ≤ i → (∀ x, 0 ≤ x → (x ∈ c ↔ x ∈ s)) →
    Ev (fun k => impl_DeskOk.l0 k c ags (ags.length : Int) i n ags qs g) ((ags.drop i.toNat).all (goodA n) && (qs.all (goodW n) && (nd s (bz (ags.drop i.toNat) ++ qs.map (·.f0)) && allFree ags qs))) := by
  induction d with
  | zero =>
    intro i c s h0 hd hc hs
    rw [List.drop_eq_nil_iff.2 (show ags.length ≤ i.toNat by omega)]
    refine Ev.step (fun k => by simp only [impl_DeskOk.l0]; rw [if_neg (by omega)]) ?_
    have := queue_impl n ags qs g hl hm qs.length 0 c (by omega) (by omega) (by omega)
    have e : (qs.all (goodW n) && (nd s (qs.map (·.f0)) && allFree ags qs)) = (qs.all (goodW n) && (nd c (qs.map (·.f0)) && allFree ags qs)) := by
      cases q : qs.all (goodW n) with
      | false => rfl
      | true =>
        rw [nd_congr2 (qs.map (·.f0)) s c (fun x hx => by
          obtain ⟨w, hw, rfl⟩ := List.mem_map.1 hx
          have h := List.all_eq_true.1 q w hw
          unfold goodW at h
          simp only [Bool.and_eq_true] at h
          exact (inV_iff.1 h.1).1) (fun x hx => (hs x hx).symm)]
    simp only [bz, List.nil_append, List.all_nil, Bool.true_and]
    rw [e]
    simpa using this
  | succ d ih =>
    intro i c s h0 hd hc hs
    have ei : wrap64 (i + 1) = i + 1 := w64 (by omega)
    have hi1 : i < (ags.length : Int) := by omega
    rw [drop41 ags i h0 hi1, all_cons_and]
    unfold bz
    generalize hw : rd_T41 ags i = a
    have N : Ev (fun _ : Nat => some false) false := Ev.now _
    have hc2 : c.length < 17592186044416 := by omega
    refine Ev.step (fun k => by simp only [impl_DeskOk.l0, ei, in_i, has_f, Option.bind_some, hw]; rw [if_pos hi1, if_pos h0, if_pos hi1]) ?_
    rw [show goodA n a = (inV a.f0 0 255 && (inV a.f1 (-1) 1000000000 && inV a.f2 0 n)) from rfl]
    cases c1 : inV a.f0 0 255 with
    | false => simp only [Bool.false_and, Bool.false_eq_true, if_false]; exact N
    | true =>
      simp only [Bool.true_and, if_true]
      cases c2 : inV a.f1 (-1) 1000000000 with
      | false => simp only [Bool.false_and, Bool.false_eq_true, if_false]; exact N
      | true =>
        simp only [Bool.true_and, if_true]
        cases c3 : inV a.f2 0 n with
        | false => simp only [Bool.false_and, Bool.false_eq_true, if_false]; exact N
        | true =>
          simp only [Bool.true_and, if_true, hc2]
          by_cases c4 : a.f1 ≥ 0
          · simp only [c4, if_true, List.cons_append]
            rw [show nd s (a.f1 :: (bz (ags.drop (i + 1).toNat) ++ qs.map (·.f0))) = (!decide (a.f1 ∈ s) && nd (s ++ [a.f1]) (bz (ags.drop (i + 1).toNat) ++ qs.map (·.f0))) from rfl, ← show decide (a.f1 ∈ c) = decide (a.f1 ∈ s) by simp only [hs a.f1 c4]]
            cases c0 : decide (a.f1 ∈ c) with
            | true => simp only [if_true, Bool.not_true, Bool.false_and, Bool.and_false]; exact N
            | false =>
              simp only [Bool.false_eq_true, if_false, Bool.not_false, Bool.true_and]
              exact ih (i + 1) (c ++ [a.f1]) (s ++ [a.f1]) (by omega) (by omega) (by simp; omega) (fun x hx => by simp only [List.mem_append, List.mem_singleton, hs x hx])
          · simp only [c4, if_false]
            exact ih (i + 1) (c ++ [a.f1]) s (by omega) (by omega) (by simp; omega) (fun x hx => by
              simp only [List.mem_append, List.mem_singleton, hs x hx]
              exact ⟨fun q => q.elim id fun q => by omega, Or.inl⟩)
theorem desk_impl (hl : (ags.length : Int) ≤ 1048576) (hm : (qs.length : Int) ≤ 1048576) : Ev (fun k => impl_DeskOk.f k n ags qs g) (deskV n ags qs g) := by
  have J : Ev (fun k => impl_DeskOk.j0 k true n ags qs g) false := Ev.step (f := fun _ => some false) (fun k => by simp only [impl_DeskOk.j0, if_true]) (Ev.now _)
  refine Ev.congr (fun k => by unfold impl_DeskOk.f; simp only [in_i, Option.bind_some]; rfl) ?_
  unfold deskV
  by_cases c1 : inV n 0 1000000000 = true
  · simp only [c1, if_true, Bool.true_and]
    by_cases c2 : inV (ags.length : Int) 1 12 = true
    · simp only [c2, if_true, Bool.true_and]
      have hc2 := inV_iff.1 c2
      by_cases c3 : (qs.length : Int) > 40
      · simp only [c3, if_true, decide_true, Bool.not_true, Bool.false_and]; exact J
      · simp only [c3, if_false, decide_false, Bool.not_false, Bool.true_and]
        by_cases c4 : inV g 0 1000000 = true
        · simp only [c4, Bool.not_true, Bool.true_and]
          refine Ev.step (fun k => by simp only [impl_DeskOk.j0, Bool.false_eq_true, if_false]; rfl) ?_
          have := agents_impl n ags qs g (by omega) (by omega) ags.length 0 [] [] (by omega) (by omega) (by simp) (fun _ _ => Iff.rfl)
          rw [all_both]
          have e : (ags.all (goodA n) && (qs.all (goodW n) && qs.all (free ags) && nd [] (bz ags ++ qs.map (·.f0)))) = (ags.all (goodA n) && (qs.all (goodW n) && (nd [] (bz ags ++ qs.map (·.f0)) && allFree ags qs))) := by
            unfold allFree
            cases ags.all (goodA n) <;> cases qs.all (goodW n) <;> cases qs.all (free ags) <;> cases nd [] (bz ags ++ qs.map (·.f0)) <;> rfl
          rw [e]
          simpa using this
        · simp only [Bool.not_eq_true] at c4; simp only [c4, Bool.not_false, Bool.false_and]; exact J
    · simp only [Bool.not_eq_true] at c2; simp only [c2, Bool.false_eq_true, if_false, Bool.false_and]; exact J
  · simp only [Bool.not_eq_true] at c1; simp only [c1, Bool.false_eq_true, if_false, Bool.false_and]; exact J
end

def toA (x : S103) : S41 := ⟨x.f0, x.f1, x.f2⟩
def toW (x : S105) : S70 := ⟨x.f0, x.f1, x.f2, x.f3⟩
theorem a_to (x : S103) : laws_toAgent.f x.f0 x.f1 x.f2 = some (x.f0, x.f1, x.f2) := rfl
theorem w_to (x : S105) : laws_toWaiting.f x.f0 x.f1 x.f2 x.f3 = some (x.f0, x.f1, x.f2, x.f3) := rfl
theorem ags_ev (l : List S103) (hl : (l.length : Int) ≤ 1048576) : Ev (fun k => laws_toAgentS.f k l) (l.map toA) := by
  refine Ev.congr (fun k => ?_) (gen_to l hl (fun k m i => laws_toAgentS.l0 k l m i) (fun i => toA (rd_T103 l i)) (fun k m i h0 h1 h2 => ?_) (fun k m i h => ?_) toA (fun i h => ?_) l.length 0 (List.replicate l.length z41) (by omega) (by omega) (by omega) (by simp) (fun j hj => by omega))
  · unfold laws_toAgentS.f
    rw [if_pos (by omega), if_pos (by omega)]
    rfl
  · simp only [laws_toAgentS.l0]
    rw [if_pos h1, if_pos h0]
    simp only [a_to, Option.bind_some]
    rw [if_pos h2]
    rfl
  · simp only [laws_toAgentS.l0]
    rw [if_neg h]
  · show toA (l.getD i z103) = _
    rw [getD_at l z103 i h]
theorem qs_ev (l : List S105) (hl : (l.length : Int) ≤ 1048576) : Ev (fun k => laws_toWaitingS.f k l) (l.map toW) := by
  refine Ev.congr (fun k => ?_) (gen_to l hl (fun k m i => laws_toWaitingS.l0 k l m i) (fun i => toW (rd_T105 l i)) (fun k m i h0 h1 h2 => ?_) (fun k m i h => ?_) toW (fun i h => ?_) l.length 0 (List.replicate l.length z70) (by omega) (by omega) (by omega) (by simp) (fun j hj => by omega))
  · unfold laws_toWaitingS.f
    rw [if_pos (by omega), if_pos (by omega)]
    rfl
  · simp only [laws_toWaitingS.l0]
    rw [if_pos h1, if_pos h0]
    simp only [w_to, Option.bind_some]
    rw [if_pos h2]
    rfl
  · simp only [laws_toWaitingS.l0]
    rw [if_neg h]
  · show toW (l.getD i z105) = _
    rw [getD_at l z105 i h]
theorem desk_to (n : Int) (l : List S103) (m : List S105) (g : Int) (hl : (l.length : Int) ≤ 1048576) (hm : (m.length : Int) ≤ 1048576) : Ev (fun k => laws_toDesk.f k n l m g) (n, l.map toA, m.map toW, g) := by
  refine Ev.congr (fun k => by unfold laws_toDesk.f; rfl) (Ev.bind (ags_ev l hl) (Ev.bind (qs_ev m hm) ?_))
  exact Ev.now _
theorem eqA_ev (l : List S41) (hl : (l.length : Int) ≤ 1048576) : Ev (fun k => laws_eqAgentS.f k l l) true := by
  refine Ev.congr (fun k => ?_) (gen_eq (n := l.length) hl (fun k i => laws_eqAgentS.l0 k l l i) (fun k i h0 h1 => ?_) (fun k i h => ?_) l.length 0 (by omega) (by omega) (by omega))
  · unfold laws_eqAgentS.f
    rw [if_pos rfl]
  · simp only [laws_eqAgentS.l0]
    rw [if_pos h1, if_pos h0, if_pos h1]
    simp only [laws_eqAgent.f, if_true, Option.bind_some]
  · simp only [laws_eqAgentS.l0]
    rw [if_neg h]
theorem eqW_ev (l : List S70) (hl : (l.length : Int) ≤ 1048576) : Ev (fun k => laws_eqWaitingS.f k l l) true := by
  refine Ev.congr (fun k => ?_) (gen_eq (n := l.length) hl (fun k i => laws_eqWaitingS.l0 k l l i) (fun k i h0 h1 => ?_) (fun k i h => ?_) l.length 0 (by omega) (by omega) (by omega))
  · unfold laws_eqWaitingS.f
    rw [if_pos rfl]
  · simp only [laws_eqWaitingS.l0]
    rw [if_pos h1, if_pos h0, if_pos h1]
    simp only [laws_eqWaiting.f, if_true, Option.bind_some]
  · simp only [laws_eqWaitingS.l0]
    rw [if_neg h]
theorem desk_eq (n : Int) (l : List S41) (m : List S70) (g : Int) (hl : (l.length : Int) ≤ 1048576) (hm : (m.length : Int) ≤ 1048576) : Ev (fun k => laws_eqDesk.f k n l m g n l m g) true := by
  refine Ev.congr (fun k => by unfold laws_eqDesk.f; simp only [if_true]; rfl) (Ev.bind (eqA_ev l hl) ?_)
  simp only [if_true]
  refine Ev.bind (eqW_ev m hm) ?_
  simp only [if_true]
  exact Ev.now _
theorem sz_desk (n : Int) (l : List S103) (m : List S105) (g : Int) (hl : l.length ≤ maxLen) (hm : m.length ≤ maxLen) : ∃ t, laws_szDesk.f n l m g 1048576 = some t ∧ (t < 0 ∨ ((l.length : Int) ≤ 1048576 ∧ (m.length : Int) ≤ 1048576)) := by
  unfold laws_szDesk.f laws_szAgentS.f laws_szWaitingS.f
  unfold maxLen at hl hm
  by_cases c : wrap64 (1048576 - (l.length : Int)) < 0
  · simp only [c, if_true, Option.bind_some, show (-1 : Int) < 0 by decide]
    exact ⟨_, rfl, Or.inl (by decide)⟩
  · simp only [c, if_false, Option.bind_some]
    by_cases c2 : wrap64 (wrap64 (1048576 - (l.length : Int)) - (m.length : Int)) < 0
    · simp only [c2, if_true, Option.bind_some, show (-1 : Int) < 0 by decide]
      exact ⟨_, rfl, Or.inl (by decide)⟩
    · simp only [c2, if_false, Option.bind_some]
      refine ⟨_, rfl, Or.inr ?_⟩
      unfold wrap64 at c c2
      omega

def sW (c : Int) : List S70 → Int → Int × Int
  | [], _ => (2, -1)
  | w :: r, i => if w.f0 = c then (1, i) else sW c r (i + 1)
def sA (c : Int) (qs : List S70) : List S41 → Int → Int × Int
  | [], _ => sW c qs 0
  | a :: r, i => if a.f1 = c then (0, i) else sA c qs r (i + 1)
/-- Who is served: by whom, or where he waits. -/
def servV (n : Int) (ags : List S41) (qs : List S70) (g c : Int) : Int × Int := if (deskV n ags qs g && decide (c ≥ 0)) = true then sA c qs ags 0 else (2, -1)
section
variable (n : Int) (ags : List S41) (qs : List S70) (g c : Int)
theorem serv_sw (hm : (qs.length : Int) ≤ 1048576) (d : Nat) : ∀ i : Int, 0 ≤ i → (qs.length : Int) - i = d → Ev (fun k => spec_Served.l1 k c i n ags qs g) (sW c (qs.drop i.toNat) i) := by
  induction d with
  | zero =>
    intro i h0 hd
    rw [List.drop_eq_nil_iff.2 (show qs.length ≤ i.toNat by omega)]
    refine Ev.step (f := fun _ => some (2, -1)) (fun k => by simp only [spec_Served.l1]; rw [if_neg (by omega)]) (Ev.now _)
  | succ d ih =>
    intro i h0 hd
    have ei : wrap64 (i + 1) = i + 1 := w64 (by omega)
    have hi1 : i < (qs.length : Int) := by omega
    rw [drop70 qs i h0 hi1]
    unfold sW
    by_cases h : (rd_T70 qs i).f0 = c
    · rw [if_pos h]
      refine Ev.step (f := fun _ => some (1, i)) (fun k => by simp only [spec_Served.l1]; rw [if_pos hi1, if_pos h0, if_pos h]) (Ev.now _)
    · rw [if_neg h]
      refine Ev.step (fun k => by simp only [spec_Served.l1, ei]; rw [if_pos hi1, if_pos h0, if_neg h]) (ih (i + 1) (by omega) (by omega))
theorem serv_iw (hm : (qs.length : Int) ≤ 1048576) (d : Nat) : ∀ i : Int, 0 ≤ i → (qs.length : Int) - i = d → Ev (fun k => impl_Served.l1 k c qs (qs.length : Int) i) (sW c (qs.drop i.toNat) i) := by
  induction d with
  | zero =>
    intro i h0 hd
    rw [List.drop_eq_nil_iff.2 (show qs.length ≤ i.toNat by omega)]
    refine Ev.step (f := fun _ => some (2, -1)) (fun k => by simp only [impl_Served.l1]; rw [if_neg (by omega)]) (Ev.now _)
  | succ d ih =>
    intro i h0 hd
    have ei : wrap64 (i + 1) = i + 1 := w64 (by omega)
    have hi1 : i < (qs.length : Int) := by omega
    rw [drop70 qs i h0 hi1]
    unfold sW
    by_cases h : (rd_T70 qs i).f0 = c
    · rw [if_pos h]
      refine Ev.step (f := fun _ => some (1, i)) (fun k => by simp only [impl_Served.l1]; rw [if_pos hi1, if_pos h0, if_pos hi1, if_pos h]) (Ev.now _)
    · rw [if_neg h]
      refine Ev.step (fun k => by simp only [impl_Served.l1, ei]; rw [if_pos hi1, if_pos h0, if_pos hi1, if_neg h]) (ih (i + 1) (by omega) (by omega))
theorem serv_sa (hl : (ags.length : Int) ≤ 1048576) (hm : (qs.length : Int) ≤ 1048576) (d : Nat) : ∀ i : Int, 0 ≤ i → (ags.length : Int) - i = d → Ev (fun k => spec_Served.l0 k c i n ags qs g) (sA c qs (ags.drop i.toNat) i) := by
  induction d with
  | zero =>
    intro i h0 hd
    rw [List.drop_eq_nil_iff.2 (show ags.length ≤ i.toNat by omega)]
    refine Ev.step (fun k => by simp only [spec_Served.l0]; rw [if_neg (by omega)]) ?_
    have := serv_sw n ags qs g c hm qs.length 0 (by omega) (by omega)
    simpa [sA] using this
  | succ d ih =>
    intro i h0 hd
    have ei : wrap64 (i + 1) = i + 1 := w64 (by omega)
    have hi1 : i < (ags.length : Int) := by omega
    rw [drop41 ags i h0 hi1]
    unfold sA
    by_cases h : (rd_T41 ags i).f1 = c
    · rw [if_pos h]
      refine Ev.step (f := fun _ => some (0, i)) (fun k => by simp only [spec_Served.l0]; rw [if_pos hi1, if_pos h0, if_pos h]) (Ev.now _)
    · rw [if_neg h]
      refine Ev.step (fun k => by simp only [spec_Served.l0, ei]; rw [if_pos hi1, if_pos h0, if_neg h]) (ih (i + 1) (by omega) (by omega))
theorem serv_ia (hl : (ags.length : Int) ≤ 1048576) (hm : (qs.length : Int) ≤ 1048576) (d : Nat) : ∀ i : Int, 0 ≤ i → (ags.length : Int) - i = d → Ev (fun k => impl_Served.l0 k c ags (ags.length : Int) i n ags qs g) (sA c qs (ags.drop i.toNat) i) := by
  induction d with
  | zero =>
    intro i h0 hd
    rw [List.drop_eq_nil_iff.2 (show ags.length ≤ i.toNat by omega)]
    refine Ev.step (fun k => by simp only [impl_Served.l0]; rw [if_neg (by omega)]) ?_
    have := serv_iw qs c hm qs.length 0 (by omega) (by omega)
    simpa [sA] using this
  | succ d ih =>
    intro i h0 hd
    have ei : wrap64 (i + 1) = i + 1 := w64 (by omega)
    have hi1 : i < (ags.length : Int) := by omega
    rw [drop41 ags i h0 hi1]
    unfold sA
    by_cases h : (rd_T41 ags i).f1 = c
    · rw [if_pos h]
      refine Ev.step (f := fun _ => some (0, i)) (fun k => by simp only [impl_Served.l0]; rw [if_pos hi1, if_pos h0, if_pos hi1, if_pos h]) (Ev.now _)
    · rw [if_neg h]
      refine Ev.step (fun k => by simp only [impl_Served.l0, ei]; rw [if_pos hi1, if_pos h0, if_pos hi1, if_neg h]) (ih (i + 1) (by omega) (by omega))
theorem serv_spec (hl : (ags.length : Int) ≤ 1048576) (hm : (qs.length : Int) ≤ 1048576) : Ev (fun k => spec_Served.f k n ags qs g c) (servV n ags qs g c) := by
  have J : Ev (fun k => spec_Served.j0 k c true n ags qs g) (2, -1) := Ev.step (f := fun _ => some (2, -1)) (fun k => by simp only [spec_Served.j0, if_true]) (Ev.now _)
  refine Ev.congr (fun k => by unfold spec_Served.f; rfl) (Ev.bind (desk_spec n ags qs g hl hm) ?_)
  unfold servV
  cases deskV n ags qs g with
  | false => simp only [Bool.false_and, Bool.false_eq_true, if_false]; exact J
  | true =>
    simp only [Bool.true_and, if_true, decide_eq_true_eq]
    by_cases h : c < 0
    · rw [if_neg (show ¬ c ≥ 0 by omega)]; simp only [h, decide_true]; exact J
    · rw [if_pos (show c ≥ 0 by omega)]
      simp only [h, decide_false]
      refine Ev.step (fun k => by simp only [spec_Served.j0, Bool.false_eq_true, if_false]; rfl) ?_
      have := serv_sa n ags qs g c hl hm ags.length 0 (by omega) (by omega)
      simpa using this
theorem serv_impl (hl : (ags.length : Int) ≤ 1048576) (hm : (qs.length : Int) ≤ 1048576) : Ev (fun k => impl_Served.f k n ags qs g c) (servV n ags qs g c) := by
  have J : Ev (fun k => impl_Served.j0 k c false n ags qs g) (2, -1) := Ev.step (f := fun _ => some (2, -1)) (fun k => by simp only [impl_Served.j0, Bool.false_eq_true, if_false]) (Ev.now _)
  refine Ev.congr (fun k => by unfold impl_Served.f; rfl) (Ev.bind (desk_impl n ags qs g hl hm) ?_)
  unfold servV
  cases deskV n ags qs g with
  | false => simp only [Bool.false_and, Bool.false_eq_true, if_false]; exact J
  | true =>
    simp only [Bool.true_and, if_true, decide_eq_true_eq]
    by_cases h : c ≥ 0
    · rw [if_pos h]
      simp only [h, decide_true]
      refine Ev.step (fun k => by simp only [impl_Served.j0, if_true]; rfl) ?_
      have := serv_ia n ags qs g c hl hm ags.length 0 (by omega) (by omega)
      simpa using this
    · rw [if_neg h]; simp only [h, decide_false]; exact J
end

theorem FnExactServed : SFnExactServed.Pure := by
  intro n l m g c0 _ hl0 hm0 _ _
  apply Ev.rounds
  obtain ⟨t, ht, hc⟩ := sz_desk n l m g hl0.2 hm0.2
  by_cases c : t < 0
  · refine Ev.congr (f := fun _ => some true) (fun k => ?_) (Ev.now _)
    unfold laws_FnExactServed.f
    rw [ht, Option.bind_some, if_pos c]
  · obtain ⟨hl, hm⟩ := hc.resolve_left c
    have hT := desk_to n l m g hl hm
    have hl2 : ((l.map toA).length : Int) ≤ 1048576 := by simpa using hl
    have hm2 : ((m.map toW).length : Int) ≤ 1048576 := by simpa using hm
    refine Ev.congr (fun k => by unfold laws_FnExactServed.f; rw [ht, Option.bind_some, if_neg c]) (Ev.bind hT (Ev.bind (serv_spec n _ _ g c0 hl2 hm2) (Ev.bind hT (Ev.bind (serv_impl n _ _ g c0 hl2 hm2) ?_))))
    simp only [if_true, bne_self_eq_false]
    refine Ev.step (fun k => by simp only [laws_FnExactServed.j0, Bool.false_eq_true, if_false]; rfl) ?_
    refine Ev.bind hT (Ev.bind (desk_eq n _ _ g hl2 hm2) ?_)
    simp only [if_true]
    exact Ev.now _

end Go.Proofs.Ytllgjohkkahfgaa.Pure
