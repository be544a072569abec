/- FnWholeSums: drawn samples of whole numbers come to the same sum in both precisions; matched with themselves they come to all their squares. No condition. -/
import Derived.Test.YtplhdplebbhakaaSFnWholeSums
set_option linter.unusedVariables false
set_option linter.unusedSimpArgs false
namespace Go.Proofs.Ytplhdplebbhakaa.Pure
open Go.RowKit Go.Proofs.Ytplhdplebbhakaa.PFnWholeSums Go.Proofs.Ytplhdplebbhakaa.SFnWholeSums Go.Proofs.YtplhdplebbhakaaW.PrintWords Go.Proofs.YtplhdplebbhakaaW.PrintLast Go.Proofs.YtplhdplebbhakaaW.PrintMore
theorem w64 {x : Int} (h : -9000000000000000000 ≤ x ∧ x ≤ 9000000000000000000) : wrap64 x = x := by unfold wrap64; omega
theorem rd_at (l : List Int) (i : Int) (h0 : 0 ≤ i) (h1 : i < l.length) : l[i.toNat]? = some (rd l i) := by
  simp [rd, List.getD_eq_getElem?_getD, List.getElem?_eq_getElem (show i.toNat < l.length by omega)]

theorem and_bound (x m : Int) (h0 : 0 ≤ m) (h1 : m ≤ 2000000000) : 0 ≤ Go.bits .and .i64 x m ∧ Go.bits .and .i64 x m ≤ m := by
  have e : (BitVec.ofInt 64 m).toNat = m.toNat := by
    rw [BitVec.toNat_ofInt]
    have : m % ((2 ^ 64 : Nat) : Int) = m := Int.emod_eq_of_lt h0 (by omega)
    rw [this]
  have hle : (BitVec.ofInt 64 x &&& BitVec.ofInt 64 m).toNat ≤ m.toNat := by
    rw [BitVec.toNat_and, e]
    exact Nat.and_le_right
  have hw : Go.bits .and .i64 x m = ((BitVec.ofInt 64 x &&& BitVec.ofInt 64 m).toNat : Int) := by
    show IntKind.i64.wrap (((BitVec.ofInt 64 x &&& BitVec.ofInt 64 m).toNat : Nat) : Int) = _
    rw [IntKind.wrap_i64]
    omega
  omega

theorem byte_ok2 (l : List Int) (s1 s2 : Int) (hl : (l.length : Int) ≤ 2000000) (h0 : 0 ≤ s1) : ∃ b t1 t2, spec_l1Byte.f l s1 s2 = some (b, t1, t2) ∧ 0 ≤ b ∧ b ≤ 255 ∧ 0 ≤ t1 := by
  unfold spec_l1Byte.f
  by_cases c : s1 < (l.length : Int)
  · rw [if_pos c, if_pos h0]
    refine ⟨_, _, _, rfl, (and_bound _ 255 (by omega) (by omega)).1, (and_bound _ 255 (by omega) (by omega)).2, ?_⟩
    rw [w64 (by omega)]
    omega
  · rw [if_neg c]
    exact ⟨_, _, _, rfl, (and_bound _ 255 (by omega) (by omega)).1, (and_bound _ 255 (by omega) (by omega)).2, h0⟩
theorem below_ok2 (l : List Int) (s1 s2 n : Int) (hl : (l.length : Int) ≤ 2000000) (h0 : 0 ≤ s1) : ∃ r t1 t2, spec_l1Below.f l s1 s2 n = some (r, t1, t2) ∧ 0 ≤ t1 ∧ (0 < n → 0 ≤ r ∧ r < n) ∧ (n ≤ 0 → r = 0) := by
  unfold spec_l1Below.f
  by_cases c : n ≤ 0
  · rw [if_pos c]
    exact ⟨_, _, _, rfl, h0, fun h => absurd h (by omega), fun _ => rfl⟩
  · rw [if_neg c]
    by_cases c2 : n ≤ 256
    · rw [if_pos c2]
      obtain ⟨b, t1, t2, e, b0, b1, b2⟩ := byte_ok2 l s1 s2 hl h0
      rw [e]
      simp only [Option.bind_some]
      rw [if_neg (by omega)]
      refine ⟨_, _, _, rfl, b2, fun _ => ?_, fun h => absurd h (by omega)⟩
      rw [Int.tmod_eq_emod_of_nonneg b0]
      exact ⟨Int.emod_nonneg _ (by omega), Int.emod_lt_of_pos _ (by omega)⟩
    · rw [if_neg c2]
      obtain ⟨b, t1, t2, e, b0, b1, b2⟩ := byte_ok2 l s1 s2 hl h0
      rw [e]
      simp only [Option.bind_some]
      obtain ⟨b', t1', t2', e', b0', b1', b2'⟩ := byte_ok2 l t1 t2 hl b2
      rw [e']
      simp only [Option.bind_some]
      obtain ⟨b'', t1'', t2'', e'', b0'', b1'', b2''⟩ := byte_ok2 l t1' t2' hl b2'
      rw [e'']
      simp only [Option.bind_some]
      obtain ⟨c', u1, u2, f, g0, g1, g2⟩ := byte_ok2 l t1'' t2'' hl b2''
      rw [f]
      simp only [Option.bind_some]
      rw [if_neg (by omega)]
      refine ⟨_, _, _, rfl, g2, fun _ => ?_, fun h => absurd h (by omega)⟩
      rw [Int.tmod_eq_emod_of_nonneg (by unfold wrap64; omega)]
      exact ⟨Int.emod_nonneg _ (by omega), Int.emod_lt_of_pos _ (by omega)⟩
theorem new_ok2 (l : List Int) (hl : (l.length : Int) ≤ 2000000) : ∃ h, Ev (fun k => spec_l1New.f k l) (l, 0, h) := by
  have key : ∀ (d : Nat) (i h : Int), 0 ≤ i → i ≤ l.length → (l.length : Int) - i = d → ∃ h', Ev (fun k => spec_l1New.l0 k l h i) (l, 0, h') := by
    intro d
    induction d with
    | zero =>
      intro i h h0 h1 hd
      refine ⟨h, Ev.step (f := fun _ => some (l, 0, h)) (fun k => ?_) (Ev.now _)⟩
      simp only [spec_l1New.l0]
      rw [if_neg (by omega)]
    | succ d ih =>
      intro i h h0 h1 hd
      have ei : wrap64 (i + 1) = i + 1 := w64 (by omega)
      by_cases c : i < 4000
      · obtain ⟨h', hh⟩ := ih (i + 1) (Go.bits .and .i64 (wrap64 ((wrap64 ((wrap64 (h * 131)) + (wrap64 (rd l i)))) + 7)) 1073741823) (by omega) (by omega) (by omega)
        refine ⟨h', Ev.step (fun k => ?_) hh⟩
        simp only [spec_l1New.l0]
        rw [if_pos (by omega), if_pos c, if_pos h0, ei]
      · refine ⟨h, Ev.step (f := fun _ => some (l, 0, h)) (fun k => ?_) (Ev.now _)⟩
        simp only [spec_l1New.l0]
        rw [if_pos (by omega), if_neg c]
  exact key l.length 0 _ (by omega) (by omega) (by omega)

/-! Floats that stand for whole numbers -/
open Go.Proofs.Ytplhdplebbhakaa
def V (k : FloatKind) (x z : Int) : Prop := Wh.W k x.toNat z
theorem op_of {k : FloatKind} {o : BinOp} {x y : Int} {r : Nat} (h : floatBits o k x.toNat y.toNat = some r) : Fx.op k o x y = some (r : Int) := by unfold Fx.op; rw [h]; rfl
theorem vadd {k : FloatKind} {x y a b : Int} (hx : V k x a) (hy : V k y b) (ha : Wh.B a) (hb : Wh.B b) (hz : Wh.B (a + b)) : ∃ t, Fx.op k .add x y = some t ∧ V k t (a + b) := by
  have hx' := hx
  have hy' := hy
  obtain ⟨s, e, e1⟩ := hx
  obtain ⟨u, f, f1⟩ := hy
  have h := Whole.add_whole k s u _ _ (ha.top k) (hb.top k) (by rw [e1, f1]; exact hz.top k)
  rw [← e, ← f] at h
  exact ⟨_, op_of h, Wh.W.add hx' hy' ha hb hz (by rw [h]; rfl)⟩
theorem vsub {k : FloatKind} {x y a b : Int} (hx : V k x a) (hy : V k y b) (ha : Wh.B a) (hb : Wh.B b) (hz : Wh.B (a - b)) : ∃ t, Fx.op k .sub x y = some t ∧ V k t (a - b) := by
  have hx' := hx
  have hy' := hy
  obtain ⟨s, e, e1⟩ := hx
  obtain ⟨u, f, f1⟩ := hy
  have e3 : Whole.sg s a.natAbs + Whole.sg (!u) b.natAbs = a - b := by rw [Wh.sg_not, e1, f1]; omega
  have h := Whole.sub_whole k s u _ _ (ha.top k) (hb.top k) (by rw [e3]; exact hz.top k)
  rw [← e, ← f] at h
  exact ⟨_, op_of h, Wh.W.sub hx' hy' ha hb hz (by rw [h]; rfl)⟩
theorem vmul {k : FloatKind} {x y a b : Int} (hx : V k x a) (hy : V k y b) (ha : Wh.B a) (hb : Wh.B b) (hz : Wh.B (a * b)) : ∃ t, Fx.op k .mul x y = some t ∧ V k t (a * b) := by
  have hx' := hx
  have hy' := hy
  obtain ⟨s, e, e1⟩ := hx
  obtain ⟨u, f, f1⟩ := hy
  have h := Whole.mul_whole k s u _ _ (ha.top k) (hb.top k) (by rw [← Int.natAbs_mul]; exact hz.top k)
  rw [← e, ← f] at h
  exact ⟨_, op_of h, Wh.W.mul hx' hy' ha hb hz (by rw [h]; rfl)⟩
theorem vconv {k k2 : FloatKind} {x a : Int} (hx : V k x a) (ha : Wh.B a) : ∃ t, Fx.conv k k2 x = some t ∧ V k2 t a := by
  have hx' := hx
  obtain ⟨s, e, e1⟩ := hx
  have h := Whole.conv_whole k k2 s _ (ha.top k) (ha.top k2)
  rw [← e] at h
  refine ⟨((Whole.N k2 s a.natAbs : Nat) : Int), by unfold Fx.conv; rw [h]; rfl, ⟨s, rfl, e1⟩⟩
theorem vint (k : FloatKind) (z : Int) : V k ((floatOfInt k z : Nat) : Int) z := Wh.W.int k z
theorem veq {k : FloatKind} {x y a b : Int} (hx : V k x a) (hy : V k y b) (ha : Wh.B a) (hb : Wh.B b) : Fx.feq k x y = decide (a = b) := by
  unfold Fx.feq
  rw [Wh.W.order hx hy ha hb]
  rcases Int.lt_trichotomy a b with h | h | h
  · rw [decide_eq_false (by omega)]; simp [compare, compareOfLessAndEq, h]
  · rw [decide_eq_true h]; subst h; simp [compare, compareOfLessAndEq]
  · rw [decide_eq_false (by omega)]
    have h1 : ¬ a < b := by omega
    have h2 : ¬ a = b := by omega
    simp [compare, compareOfLessAndEq, h1, h2]
theorem nword (n : Nat) : ∃ R, R < 2147483648 ∧ ∀ s, Whole.N .f32 s n = Ieee.Format.word Ieee.single s R := by
  unfold Whole.N
  show ∃ R, R < 2147483648 ∧ ∀ s, Ieee.Format.nearest Ieee.single s n 0 = _
  unfold Ieee.Format.nearest
  by_cases c : n = 0
  · exact ⟨0, by decide, fun s => by rw [if_pos c]⟩
  · refine ⟨min ((max (0 + (n.log2 : Int) - Ieee.single.fractionBits) Ieee.single.leastPlace - Ieee.single.leastPlace).toNat * Ieee.single.binade + Ieee.Toward.even.cut false (n <<< (0 - max (0 + (n.log2 : Int) - Ieee.single.fractionBits) Ieee.single.leastPlace).toNat) (max (0 + (n.log2 : Int) - Ieee.single.fractionBits) Ieee.single.leastPlace - 0).toNat) Ieee.single.infRung, Nat.lt_of_le_of_lt (Nat.min_le_right _ _) (show Ieee.single.infRung < 2147483648 by decide), fun s => by rw [if_neg c]; rfl⟩
theorem xor_top (R : Nat) (h : R < 2147483648) : R ^^^ 2147483648 = 2147483648 + R := by
  apply Nat.eq_of_testBit_eq
  intro i
  rw [Nat.testBit_xor, show (2147483648 : Nat) = 2 ^ 31 by decide, Nat.testBit_two_pow]
  rcases Nat.lt_trichotomy i 31 with c | c | c
  · rw [Nat.testBit_two_pow_add_gt c, decide_eq_false (by omega), Bool.xor_false]
  · subst c
    rw [Nat.testBit_two_pow_add_eq, decide_eq_true rfl]
    cases R.testBit 31 <;> rfl
  · rw [decide_eq_false (by omega), Bool.xor_false, Nat.testBit_lt_two_pow (by have : 2 ^ 31 < 2 ^ i := Nat.pow_lt_pow_right (by decide) c; omega), Nat.testBit_lt_two_pow (by have : 2 ^ 32 ≤ 2 ^ i := Nat.pow_le_pow_right (by decide) c; omega)]
theorem vneg {x a : Int} (hx : V .f32 x a) : V .f32 (impl_turned.neg x) (-a) := by
  obtain ⟨s, e, e1⟩ := hx
  obtain ⟨R, hR, hw⟩ := nword a.natAbs
  refine ⟨!s, ?_, by rw [Int.natAbs_neg, Wh.sg_not, e1]⟩
  rw [Int.natAbs_neg, hw]
  unfold impl_turned.neg
  rw [Int.toNat_natCast, e, hw]
  have h1 : Ieee.Format.word Ieee.single false R = R := by simp [Ieee.Format.word]
  have h2 : Ieee.Format.word Ieee.single true R = 2147483648 + R := by
    have : Ieee.single.signWeight = 2147483648 := by decide
    show (if true = true then Ieee.single.signWeight + R else R) = _
    rw [if_pos rfl, this]
  have h3 : ∀ y, Op.negFloat .f32 y = y ^^^ 2147483648 := fun y => rfl
  rw [h3]
  cases s
  · show Ieee.Format.word Ieee.single false R ^^^ 2147483648 = Ieee.Format.word Ieee.single true R
    rw [h1, h2, xor_top R hR]
  · show Ieee.Format.word Ieee.single true R ^^^ 2147483648 = Ieee.Format.word Ieee.single false R
    rw [h1, h2, ← xor_top R hR, Nat.xor_assoc, Nat.xor_self, Nat.xor_zero]
theorem vzero (k : FloatKind) : V k 0 0 := Wh.W.zero k
theorem bsmall {z : Int} (h0 : -10000000 ≤ z) (h1 : z ≤ 10000000) : Wh.B z := ⟨h0, h1⟩
theorem sq_le {a : Int} (h : -100 ≤ a ∧ a ≤ 100) : 0 ≤ a * a ∧ a * a ≤ 10000 := by
  have e : a * a = ((a.natAbs * a.natAbs : Nat) : Int) := (Int.natAbs_mul_self).symm
  have h1 : a.natAbs ≤ 100 := by omega
  have h2 : a.natAbs * a.natAbs ≤ 100 * 100 := Nat.mul_le_mul h1 h1
  rw [e]
  exact ⟨Int.natCast_nonneg _, by generalize a.natAbs * a.natAbs = m at h2 ⊢; omega⟩

def Lst (xs : List S26) (a b : Nat → Int) : Prop := ∀ i : Nat, i < xs.length → V .f32 (rd_T26 xs i).f0 (a i) ∧ V .f32 (rd_T26 xs i).f1 (b i) ∧ (-100 ≤ a i ∧ a i ≤ 100) ∧ (-100 ≤ b i ∧ b i ≤ 100)
def Su (a : Nat → Int) : Nat → Int
  | 0 => 0
  | n + 1 => Su a n + a n
def Sq (a b : Nat → Int) : Nat → Int
  | 0 => 0
  | n + 1 => Sq a b n + (a n * a n + b n * b n)
theorem Su_le {a : Nat → Int} {L : Nat} (h : ∀ i, i < L → -100 ≤ a i ∧ a i ≤ 100) : ∀ n, n ≤ L → -(100 * (n : Int)) ≤ Su a n ∧ Su a n ≤ 100 * (n : Int)
  | 0, _ => by simp [Su]
  | n + 1, hn => by
    have h1 := Su_le h n (by omega)
    have h2 := h n (by omega)
    simp only [Su]
    omega
theorem Sq_le {a b : Nat → Int} {L : Nat} (h : ∀ i, i < L → (-100 ≤ a i ∧ a i ≤ 100) ∧ (-100 ≤ b i ∧ b i ≤ 100)) : ∀ n, n ≤ L → 0 ≤ Sq a b n ∧ Sq a b n ≤ 20000 * (n : Int)
  | 0, _ => by simp [Sq]
  | n + 1, hn => by
    have h1 := Sq_le h n (by omega)
    have h2 := sq_le (h n (by omega)).1
    have h3 := sq_le (h n (by omega)).2
    simp only [Sq]
    omega
theorem widen_ok {x0 x1 a b : Int} (h0 : V .f32 x0 a) (h1 : V .f32 x1 b) (ha : Wh.B a) (hb : Wh.B b) : ∃ u v, impl_Widen.f x0 x1 = some (u, v) ∧ spec_Widen.f x0 x1 = some (u, v) ∧ V .f64 u a ∧ V .f64 v b := by
  obtain ⟨u, e1, q1⟩ := vconv (k2 := .f64) h0 ha
  obtain ⟨v, e2, q2⟩ := vconv (k2 := .f64) h1 hb
  refine ⟨u, v, ?_, ?_, q1, q2⟩
  · unfold impl_Widen.f; rw [e1, e2]; rfl
  · unfold spec_Widen.f; rw [e1, e2]; rfl
theorem addS_ok {x0 x1 y0 y1 a b c d : Int} (h0 : V .f32 x0 a) (h1 : V .f32 x1 b) (g0 : V .f32 y0 c) (g1 : V .f32 y1 d) (ha : Wh.B a) (hb : Wh.B b) (hc : Wh.B c) (hd : Wh.B d) (h2 : Wh.B (a + c)) (h3 : Wh.B (b + d)) :
    ∃ u v, impl_AddSample.f x0 x1 y0 y1 = some (u, v) ∧ V .f32 u (a + c) ∧ V .f32 v (b + d) := by
  obtain ⟨u, e1, q1⟩ := vadd h0 g0 ha hc h2
  obtain ⟨v, e2, q2⟩ := vadd h1 g1 hb hd h3
  exact ⟨u, v, by unfold impl_AddSample.f; rw [e1, e2]; rfl, q1, q2⟩
theorem addW_ok {x0 x1 y0 y1 a b c d : Int} (h0 : V .f64 x0 a) (h1 : V .f64 x1 b) (g0 : V .f64 y0 c) (g1 : V .f64 y1 d) (ha : Wh.B a) (hb : Wh.B b) (hc : Wh.B c) (hd : Wh.B d) (h2 : Wh.B (a + c)) (h3 : Wh.B (b + d)) :
    ∃ u v, impl_addWide.f x0 x1 y0 y1 = some (u, v) ∧ V .f64 u (a + c) ∧ V .f64 v (b + d) := by
  obtain ⟨u, e1, q1⟩ := vadd h0 g0 ha hc h2
  obtain ⟨v, e2, q2⟩ := vadd h1 g1 hb hd h3
  exact ⟨u, v, by unfold impl_addWide.f; rw [e1, e2]; rfl, q1, q2⟩
theorem mul_b {a b : Int} (ha : -100 ≤ a ∧ a ≤ 100) (hb : -100 ≤ b ∧ b ≤ 100) : -10000 ≤ a * b ∧ a * b ≤ 10000 := by
  have h1 : (a * b).natAbs ≤ 100 * 100 := by rw [Int.natAbs_mul]; exact Nat.mul_le_mul (by omega) (by omega)
  omega
theorem mulW_ok {x0 x1 y0 y1 a b : Int} (h0 : V .f64 x0 a) (h1 : V .f64 x1 b) (g0 : V .f64 y0 a) (g1 : V .f64 y1 (-b)) (ha : -100 ≤ a ∧ a ≤ 100) (hb : -100 ≤ b ∧ b ≤ 100) :
    ∃ u v, impl_MulWide.f x0 x1 y0 y1 = some (u, v) ∧ V .f64 u (a * a + b * b) ∧ V .f64 v 0 := by
  have nb : -100 ≤ -b ∧ -b ≤ 100 := by omega
  have Ba := bsmall (z := a) (by omega) (by omega)
  have Bb := bsmall (z := b) (by omega) (by omega)
  have Bn := bsmall (z := -b) (by omega) (by omega)
  have m1 := mul_b ha ha
  have m2 := mul_b hb nb
  have m3 := mul_b ha nb
  have m4 := mul_b hb ha
  obtain ⟨u1, e1, q1⟩ := vmul h0 g0 Ba Ba (bsmall (by omega) (by omega))
  obtain ⟨u2, e2, q2⟩ := vmul h1 g1 Bb Bn (bsmall (by omega) (by omega))
  obtain ⟨u3, e3, q3⟩ := vmul h0 g1 Ba Bn (bsmall (by omega) (by omega))
  obtain ⟨u4, e4, q4⟩ := vmul h1 g0 Bb Ba (bsmall (by omega) (by omega))
  obtain ⟨u5, e5, q5⟩ := vsub q1 q2 (bsmall (by omega) (by omega)) (bsmall (by omega) (by omega)) (bsmall (by omega) (by omega))
  obtain ⟨u6, e6, q6⟩ := vadd q3 q4 (bsmall (by omega) (by omega)) (bsmall (by omega) (by omega)) (bsmall (by omega) (by omega))
  refine ⟨u5, u6, ?_, ?_, ?_⟩
  · unfold impl_MulWide.f
    rw [e1, Option.bind_some, e2, Option.bind_some, e3, Option.bind_some, e4, Option.bind_some, e5, Option.bind_some, e6, Option.bind_some]
  · rw [Int.mul_neg, Int.sub_neg] at q5; exact q5
  · rw [Int.mul_neg, Int.mul_comm b a, Int.add_left_neg] at q6; exact q6
theorem draw_ok (l : List Int) (hl : (l.length : Int) ≤ 2000000) : ∀ (d : Nat) (xs : List S26) (x5 s1 s2 : Int) (a b : Nat → Int), x5 = d → 0 ≤ s1 → Lst xs a b → xs.length + d ≤ 100 →
    ∃ ys a' b', Ev (fun k => spec_DrawWholeSamples.l0 k xs x5 l s1 s2) ys ∧ Lst ys a' b' ∧ ys.length ≤ 100 := by
  intro d
  induction d with
  | zero =>
    intro xs x5 s1 s2 a b hx hs hL hb
    refine ⟨xs, a, b, Ev.step (f := fun _ => some xs) (fun k => ?_) (Ev.now _), hL, by omega⟩
    simp only [spec_DrawWholeSamples.l0]
    rw [if_neg (by omega)]
  | succ d ih =>
    intro xs x5 s1 s2 a b hx hs hL hb
    obtain ⟨r1, t1, t2, e1, p1, q1, _⟩ := below_ok2 l s1 s2 201 hl hs
    obtain ⟨r2, u1, u2, e2, p2, q2, _⟩ := below_ok2 l t1 t2 201 hl p1
    have q1 := q1 (by omega)
    have q2 := q2 (by omega)
    have w1 : wrap64 (r1 - 100) = r1 - 100 := w64 (by omega)
    have w2 : wrap64 (r2 - 100) = r2 - 100 := w64 (by omega)
    obtain ⟨ys, a', b', hE, hL', hb'⟩ := ih (xs ++ [(⟨((floatOfInt .f32 (r1 - 100) : Nat) : Int), ((floatOfInt .f32 (r2 - 100) : Nat) : Int)⟩ : S26)]) (x5 - 1) u1 u2
      (fun j => if j = xs.length then r1 - 100 else a j) (fun j => if j = xs.length then r2 - 100 else b j) (by omega) p2 (by
        intro i hi
        rw [List.length_append, List.length_singleton] at hi
        by_cases c : i = xs.length
        · subst c
          have e : rd_T26 (xs ++ [(⟨((floatOfInt .f32 (r1 - 100) : Nat) : Int), ((floatOfInt .f32 (r2 - 100) : Nat) : Int)⟩ : S26)]) (xs.length : Int) = ⟨((floatOfInt .f32 (r1 - 100) : Nat) : Int), ((floatOfInt .f32 (r2 - 100) : Nat) : Int)⟩ := by
            unfold rd_T26
            simp [List.getD_eq_getElem?_getD]
          rw [e]
          simp only [if_true]
          exact ⟨vint _ _, vint _ _, by omega, by omega⟩
        · have e : rd_T26 (xs ++ [(⟨((floatOfInt .f32 (r1 - 100) : Nat) : Int), ((floatOfInt .f32 (r2 - 100) : Nat) : Int)⟩ : S26)]) (i : Int) = rd_T26 xs (i : Int) := by
            unfold rd_T26
            rw [List.getD_eq_getElem?_getD, List.getD_eq_getElem?_getD, Int.toNat_natCast, List.getElem?_append_left (by omega)]
          rw [e]
          simp only [if_neg c]
          exact hL i (by omega)) (by rw [List.length_append, List.length_singleton]; omega)
    refine ⟨ys, a', b', Ev.step (fun k => ?_) hE, hL', hb'⟩
    simp only [spec_DrawWholeSamples.l0]
    rw [if_pos (by omega), e1, Option.bind_some]
    simp only [math_Float64frombits.f, Option.bind_some, w1]
    rw [e2, Option.bind_some]
    simp only [w2]
    rw [if_pos (by omega), w64 (by omega)]
theorem sums_ok (xs : List S26) (a b : Nat → Int) (hL : Lst xs a b) (hn : xs.length ≤ 100) : ∀ (d i : Nat) (s0 s1 w0 w1 : Int), i + d = xs.length → V .f32 s0 (Su a i) → V .f32 s1 (Su b i) → V .f64 w0 (Su a i) → V .f64 w1 (Su b i) →
    ∃ S0 S1 W0 W1, Ev (fun k => impl_Sums.l0 k xs (xs.length : Int) (i : Int) s0 s1 w0 w1) (S0, S1, W0, W1) ∧ V .f32 S0 (Su a xs.length) ∧ V .f32 S1 (Su b xs.length) ∧ V .f64 W0 (Su a xs.length) ∧ V .f64 W1 (Su b xs.length) := by
  intro d
  induction d with
  | zero =>
    intro i s0 s1 w0 w1 hi h0 h1 h2 h3
    obtain rfl : i = xs.length := by omega
    refine ⟨s0, s1, w0, w1, Ev.step (f := fun _ => some (s0, s1, w0, w1)) (fun k => ?_) (Ev.now _), h0, h1, h2, h3⟩
    simp only [impl_Sums.l0]
    rw [if_neg (by omega)]
  | succ d ih =>
    intro i s0 s1 w0 w1 hi h0 h1 h2 h3
    obtain ⟨x0, x1, xa, xb⟩ := hL i (by omega)
    have la := Su_le (a := a) (L := xs.length) (fun j hj => (hL j hj).2.2.1) i (by omega)
    have lb := Su_le (a := b) (L := xs.length) (fun j hj => (hL j hj).2.2.2) i (by omega)
    have la' := Su_le (a := a) (L := xs.length) (fun j hj => (hL j hj).2.2.1) (i + 1) (by omega)
    have lb' := Su_le (a := b) (L := xs.length) (fun j hj => (hL j hj).2.2.2) (i + 1) (by omega)
    simp only [Su] at la' lb'
    have Bxa := bsmall (z := a i) (by omega) (by omega)
    have Bxb := bsmall (z := b i) (by omega) (by omega)
    have Ba := bsmall (z := Su a i) (by omega) (by omega)
    have Bb := bsmall (z := Su b i) (by omega) (by omega)
    have Ba' := bsmall (z := Su a i + a i) (by omega) (by omega)
    have Bb' := bsmall (z := Su b i + b i) (by omega) (by omega)
    obtain ⟨u, v, e1, q1, q2⟩ := addS_ok h0 h1 x0 x1 Ba Bb Bxa Bxb Ba' Bb'
    obtain ⟨m, n, e2, _, p1, p2⟩ := widen_ok x0 x1 Bxa Bxb
    obtain ⟨y, z, e3, r1, r2⟩ := addW_ok h2 h3 p1 p2 Ba Bb Bxa Bxb Ba' Bb'
    obtain ⟨S0, S1, W0, W1, hE, hh⟩ := ih (i + 1) u v y z (by omega) q1 q2 r1 r2
    refine ⟨S0, S1, W0, W1, Ev.step (fun k => ?_) hE, hh⟩
    simp only [impl_Sums.l0]
    rw [if_pos (by omega), if_pos (by omega), if_pos (by omega), e1, Option.bind_some, e2, Option.bind_some]
    simp only
    rw [e3, Option.bind_some, w64 (by omega)]
    rfl
theorem sums_f (xs : List S26) (a b : Nat → Int) (hL : Lst xs a b) (hn : xs.length ≤ 100) :
    ∃ S0 S1 W0 W1, Ev (fun k => impl_Sums.f k xs) (S0, S1, W0, W1) ∧ V .f32 S0 (Su a xs.length) ∧ V .f32 S1 (Su b xs.length) ∧ V .f64 W0 (Su a xs.length) ∧ V .f64 W1 (Su b xs.length) := by
  obtain ⟨S0, S1, W0, W1, hE, hh⟩ := sums_ok xs a b hL hn xs.length 0 0 0 0 0 (by omega) (vzero _) (vzero _) (vzero _) (vzero _)
  refine ⟨S0, S1, W0, W1, Ev.congr (fun k => ?_) hE, hh⟩
  unfold impl_Sums.f
  rw [if_neg (by omega)]
  rfl
theorem match_ok (xs : List S26) (a b : Nat → Int) (hL : Lst xs a b) (hn : xs.length ≤ 100) : ∀ (d i : Nat) (p q : Int), i + d = xs.length → V .f64 p (Sq a b i) → V .f64 q 0 →
    ∃ P Q, Ev (fun k => impl_Match14.l0 k xs xs (xs.length : Int) (i : Int) p q) (P, Q, true) ∧ V .f64 P (Sq a b xs.length) ∧ V .f64 Q 0 := by
  intro d
  induction d with
  | zero =>
    intro i p q hi h0 h1
    obtain rfl : i = xs.length := by omega
    refine ⟨p, q, Ev.step (f := fun _ => some (p, q, true)) (fun k => ?_) (Ev.now _), h0, h1⟩
    simp only [impl_Match14.l0]
    rw [if_neg (by omega)]
  | succ d ih =>
    intro i p q hi h0 h1
    obtain ⟨x0, x1, xa, xb⟩ := hL i (by omega)
    have l := Sq_le (a := a) (b := b) (L := xs.length) (fun j hj => ⟨(hL j hj).2.2.1, (hL j hj).2.2.2⟩) i (by omega)
    have l' := Sq_le (a := a) (b := b) (L := xs.length) (fun j hj => ⟨(hL j hj).2.2.1, (hL j hj).2.2.2⟩) (i + 1) (by omega)
    simp only [Sq] at l'
    have s1 := sq_le xa
    have s2 := sq_le xb
    obtain ⟨m, n, e2, _, p1, p2⟩ := widen_ok x0 x1 (bsmall (by omega) (by omega)) (bsmall (by omega) (by omega))
    obtain ⟨m', n', e3, _, p1', p2'⟩ := widen_ok x0 (vneg x1) (bsmall (by omega) (by omega)) (bsmall (by omega) (by omega))
    obtain ⟨u, v, e4, q1, q2⟩ := mulW_ok p1 p2 p1' p2' xa xb
    obtain ⟨y, z, e5, r1, r2⟩ := addW_ok h0 h1 q1 q2 (bsmall (by omega) (by omega)) (bsmall (by omega) (by omega)) (bsmall (by omega) (by omega)) (bsmall (by omega) (by omega)) (bsmall (by omega) (by omega)) (bsmall (by omega) (by omega))
    obtain ⟨P, Q, hE, hh⟩ := ih (i + 1) y z (by omega) r1 (by simpa using r2)
    refine ⟨P, Q, Ev.step (fun k => ?_) hE, hh⟩
    simp only [impl_Match14.l0]
    rw [if_pos (by omega), if_pos (by omega), if_pos (by omega), e2, Option.bind_some, if_pos (by omega)]
    simp only [impl_turned.f, Option.bind_some]
    rw [e3, Option.bind_some]
    simp only
    rw [e4, Option.bind_some]
    simp only
    rw [e5, Option.bind_some, w64 (by omega)]
    rfl
theorem match_f (xs : List S26) (a b : Nat → Int) (hL : Lst xs a b) (hn : xs.length ≤ 100) :
    ∃ P Q, Ev (fun k => impl_Match14.f k xs xs) (P, Q, decide ((xs.length : Int) > 0)) ∧ ((xs.length : Int) > 0 → V .f64 P (Sq a b xs.length) ∧ V .f64 Q 0) := by
  by_cases c : (xs.length : Int) > 0
  · obtain ⟨P, Q, hE, hh⟩ := match_ok xs a b hL hn xs.length 0 0 0 (by omega) (vzero _) (vzero _)
    rw [decide_eq_true c]
    refine ⟨P, Q, Ev.congr (fun k => ?_) (Ev.step (fun k => ?_) hE : Ev (fun k => impl_Match14.j0 k xs xs false 0 0) (P, Q, true)), fun _ => hh⟩
    · unfold impl_Match14.f impl_in.f
      rw [if_pos rfl, if_pos (by omega), Option.bind_some, decide_eq_true (by omega)]
      rfl
    · simp only [impl_Match14.j0]
      rw [if_neg (by decide)]
      rfl
  · rw [decide_eq_false c]
    refine ⟨0, 0, Ev.congr (fun k => ?_) (Ev.step (f := fun _ => some (0, 0, false)) (fun k => ?_) (Ev.now _) : Ev (fun k => impl_Match14.j0 k xs xs true 0 0) (0, 0, false)), fun h => absurd h c⟩
    · unfold impl_Match14.f impl_in.f
      rw [if_pos rfl, if_neg (by omega), Option.bind_some]
      rfl
    · simp only [impl_Match14.j0]
      rw [if_pos trivial]
theorem law_loop (xs : List S26) (a b : Nat → Int) (hL : Lst xs a b) (hn : xs.length ≤ 100) (P Q : Int) (hP : (xs.length : Int) > 0 → V .f64 P (Sq a b xs.length) ∧ V .f64 Q 0) : ∀ (d i : Nat) (x : Int), i + d = xs.length → V .f64 x (Sq a b i) →
    Ev (fun k => laws_FnWholeSums.l0 k xs (decide ((xs.length : Int) > 0)) x (i : Int) P Q) true := by
  intro d
  induction d with
  | zero =>
    intro i x hi h0
    obtain rfl : i = xs.length := by omega
    refine Ev.step (f := fun _ => some true) (fun k => ?_) (Ev.now _)
    simp only [laws_FnWholeSums.l0]
    rw [if_neg (by omega), if_pos (by simp)]
    by_cases c : (xs.length : Int) > 0
    · obtain ⟨h1, h2⟩ := hP c
      have l := Sq_le (a := a) (b := b) (L := xs.length) (fun j hj => ⟨(hL j hj).2.2.1, (hL j hj).2.2.2⟩) xs.length (by omega)
      have B1 := bsmall (z := Sq a b xs.length) (by omega) (by omega)
      rw [decide_eq_true c, if_pos rfl]
      simp only [laws_sameFloat.f, Option.bind_some]
      rw [veq h1 h0 B1 B1, decide_eq_true rfl, if_pos rfl, veq h2 (vzero _) (bsmall (by omega) (by omega)) (bsmall (by omega) (by omega)), decide_eq_true rfl]
    · rw [decide_eq_false c, if_neg (by decide)]
  | succ d ih =>
    intro i x hi h0
    obtain ⟨x0, x1, xa, xb⟩ := hL i (by omega)
    have l := Sq_le (a := a) (b := b) (L := xs.length) (fun j hj => ⟨(hL j hj).2.2.1, (hL j hj).2.2.2⟩) i (by omega)
    have s1 := sq_le xa
    have s2 := sq_le xb
    obtain ⟨m, n, _, e2, p1, p2⟩ := widen_ok x0 x1 (bsmall (by omega) (by omega)) (bsmall (by omega) (by omega))
    obtain ⟨u, e3, q3⟩ := vmul p1 p1 (bsmall (by omega) (by omega)) (bsmall (by omega) (by omega)) (bsmall (by omega) (by omega))
    obtain ⟨v, e4, q4⟩ := vadd h0 q3 (bsmall (by omega) (by omega)) (bsmall (by omega) (by omega)) (bsmall (by omega) (by omega))
    obtain ⟨y, e5, q5⟩ := vmul p2 p2 (bsmall (by omega) (by omega)) (bsmall (by omega) (by omega)) (bsmall (by omega) (by omega))
    obtain ⟨z, e6, q6⟩ := vadd q4 q5 (bsmall (by omega) (by omega)) (bsmall (by omega) (by omega)) (bsmall (by omega) (by omega))
    have q7 : V .f64 z (Sq a b (i + 1)) := by simp only [Sq]; rw [← Int.add_assoc]; exact q6
    refine Ev.step (fun k => ?_) (ih (i + 1) z (by omega) q7)
    simp only [laws_FnWholeSums.l0]
    rw [if_pos (by omega), if_pos (by omega), e2, Option.bind_some]
    simp only [math_Float64bits.f, math_Abs.f]
    rw [e3, Option.bind_some, e4, Option.bind_some, e5, Option.bind_some, e6, Option.bind_some, w64 (by omega)]
    rfl
theorem FnWholeSums : SFnWholeSums.Pure := by
  intro l h
  apply Ev.rounds
  by_cases c : (l.length : Int) > 1048576
  · refine Ev.congr (f := fun _ => some true) (fun k => ?_) (Ev.now _)
    unfold laws_FnWholeSums.f
    rw [show laws_big.f l = some (decide ((l.length : Int) > 1048576)) from rfl, Option.bind_some, decide_eq_true c, if_pos rfl]
  · obtain ⟨h0, hE0⟩ := new_ok2 l (by omega)
    obtain ⟨n, t1, t2, e1, p1, q1, _⟩ := below_ok2 l 0 h0 40 (by omega) (by omega)
    have q1 := q1 (by omega)
    obtain ⟨xs, a, b, hE1, hL, hn⟩ := draw_ok l (by omega) n.toNat [] n t1 t2 (fun _ => 0) (fun _ => 0) (by omega) p1 (fun i hi => absurd hi (by simp)) (by simp; omega)
    have hD : Ev (fun k => spec_DrawWholeSamples.f k l) xs := by
      refine Ev.congr (fun k => rfl) (Ev.bind hE0 (Ev.congr (fun k => ?_) hE1))
      show (spec_l1Below.f l 0 h0 40).bind _ = _
      rw [e1]
      rfl
    obtain ⟨S0, S1, W0, W1, hE2, v0, v1, v2, v3⟩ := sums_f xs a b hL hn
    have la := Su_le (a := a) (L := xs.length) (fun j hj => (hL j hj).2.2.1) xs.length (by omega)
    have lb := Su_le (a := b) (L := xs.length) (fun j hj => (hL j hj).2.2.2) xs.length (by omega)
    have Ba := bsmall (z := Su a xs.length) (by omega) (by omega)
    have Bb := bsmall (z := Su b xs.length) (by omega) (by omega)
    obtain ⟨n0, e3, r0⟩ := vconv (k2 := .f32) v2 Ba
    obtain ⟨n1, e4, r1⟩ := vconv (k2 := .f32) v3 Bb
    obtain ⟨m0, m1, e5, _, g0, g1⟩ := widen_ok v0 v1 Ba Bb
    have hone : Lst [(⟨1073741824, 1065353216⟩ : S26), (⟨1077936128, 0⟩ : S26)] (fun i => if i = 0 then 2 else 3) (fun i => if i = 0 then 1 else 0) := by
      intro i hi
      rcases i with _ | _ | i
      · exact ⟨⟨false, by decide +kernel, by decide⟩, ⟨false, by decide +kernel, by decide⟩, by decide, by decide⟩
      · exact ⟨⟨false, by decide +kernel, by decide⟩, vzero _, by decide, by decide⟩
      · simp at hi; omega
    obtain ⟨o0, o1, _, _, hE3, y0, y1, _, _⟩ := sums_f _ _ _ hone (by decide)
    obtain ⟨P, Q, hE4, hP⟩ := match_f xs a b hL hn
    have hl := law_loop xs a b hL hn P Q hP xs.length 0 0 (by omega) (vzero _)
    have k5 : V .f32 1084227584 5 := ⟨false, by decide +kernel, by decide⟩
    have k1 : V .f32 1065353216 1 := ⟨false, by decide +kernel, by decide⟩
    have e6 : impl_SameSample.f o0 o1 1084227584 1065353216 = some true := by
      unfold impl_SameSample.f
      rw [veq y0 k5 (bsmall (by decide) (by decide)) (bsmall (by decide) (by decide)), veq y1 k1 (bsmall (by decide) (by decide)) (bsmall (by decide) (by decide))]
      decide
    have e7 : impl_Narrow.f W0 W1 = some (n0, n1) := by unfold impl_Narrow.f; rw [e3, e4]; rfl
    have e8 : laws_alike.f n0 n1 S0 S1 = some true := by unfold laws_alike.f; rw [veq r0 v0 Ba Ba, veq r1 v1 Bb Bb, decide_eq_true rfl, decide_eq_true rfl]; rfl
    have e9 : laws_eqWide.f m0 m1 W0 W1 = some false := by unfold laws_eqWide.f; rw [veq g0 v2 Ba Ba, veq g1 v3 Bb Bb, decide_eq_true rfl, decide_eq_true rfl]; rfl
    obtain ⟨K1, w1⟩ := hD
    obtain ⟨K2, w2⟩ := hE2
    obtain ⟨K3, w3⟩ := hE3
    obtain ⟨K4, w4⟩ := hE4
    obtain ⟨K5, w5⟩ := hl
    have w1 : ∀ k, K1 ≤ k → spec_DrawWholeSamples.f k l = some xs := w1
    have w2 : ∀ k, K2 ≤ k → impl_Sums.f k xs = some (S0, S1, W0, W1) := w2
    have w3 : ∀ k, K3 ≤ k → impl_Sums.f k [(⟨1073741824, 1065353216⟩ : S26), (⟨1077936128, 0⟩ : S26)] = some (o0, o1, _, _) := w3
    have w4 : ∀ k, K4 ≤ k → impl_Match14.f k xs xs = some (P, Q, decide ((xs.length : Int) > 0)) := w4
    refine ⟨K1 + K2 + K3 + K4 + K5 + 1, fun k hk => ?_⟩
    obtain ⟨k', rfl⟩ : ∃ k', k = k' + 1 := ⟨k - 1, by omega⟩
    show laws_FnWholeSums.f (k' + 1) l = some true
    unfold laws_FnWholeSums.f
    rw [show laws_big.f l = some (decide ((l.length : Int) > 1048576)) from rfl, Option.bind_some, decide_eq_false c, if_neg (by decide), w1 (k' + 1) (by omega), Option.bind_some, w2 (k' + 1) (by omega), Option.bind_some]
    simp only
    rw [e7, Option.bind_some, e8, Option.bind_some, if_pos rfl, e5, Option.bind_some]
    simp only
    rw [e9, Option.bind_some]
    simp only [laws_FnWholeSums.j0]
    rw [if_neg (by decide), w3 k' (by omega), Option.bind_some]
    simp only
    rw [e6, Option.bind_some, if_pos rfl, w4 k' (by omega), Option.bind_some]
    exact w5 k' (by omega)

end Go.Proofs.Ytplhdplebbhakaa.Pure
