/- Floats that stand for whole numbers: the signs of zero left out. No condition. -/
import Derived.Test.YtplhdplebbhakaaWhole
import Derived.Test.YtplhdplebbhakaaSmp
import Derived.Laws.Bits64b
set_option linter.unusedVariables false
set_option linter.unusedSimpArgs false
namespace Go.Proofs.Ytplhdplebbhakaa.Wh
open Go.RowKit Go.Proofs.Ytplhdplebbhakaa.Fl Go.Proofs.Ytplhdplebbhakaa.Whole
/-- The bits stand for the whole number. -/
def W (k : FloatKind) (r : Nat) (z : Int) : Prop := ∃ s, r = N k s z.natAbs ∧ sg s z.natAbs = z
/-- A small whole number. -/
def B (z : Int) : Prop := -10000000 ≤ z ∧ z ≤ 10000000
theorem B.top {z : Int} (h : B z) (k : FloatKind) : z.natAbs < top k := by
  have h1 := h.1
  have h2 := h.2
  cases k <;> simp only [Whole.top] <;> omega
theorem W.mk (k : FloatKind) (s : Bool) (n : Nat) : W k (N k s n) (sg s n) := by
  have e : (sg s n).natAbs = n := by cases s <;> simp [sg]
  exact ⟨s, by rw [e], by rw [e]⟩
theorem W.of {k : FloatKind} {s : Bool} {n : Nat} {r : Nat} {z : Int} (h : r = N k s n) (hz : sg s n = z) : W k r z := by
  subst h hz
  exact W.mk k s n
theorem usum_sg (s t : Bool) (z : Int) : sg (usum s t z) z.natAbs = z := by
  unfold usum sg
  by_cases h : z = 0
  · subst h; simp
  · rw [if_neg h]
    by_cases h2 : z < 0
    · rw [decide_eq_true h2]; simp; omega
    · rw [decide_eq_false h2]; simp; omega
theorem W.add {k : FloatKind} {x y r : Nat} {a b : Int} (hx : W k x a) (hy : W k y b) (ha : B a) (hb : B b) (hz : B (a + b)) (h : Res k (floatBits .add k x y) r) : W k r (a + b) := by
  obtain ⟨s, rfl, e1⟩ := hx
  obtain ⟨t, rfl, e2⟩ := hy
  rw [add_whole k s t _ _ (ha.top k) (hb.top k) (by rw [e1, e2]; exact hz.top k), e1, e2] at h
  exact W.of h (usum_sg _ _ _)
theorem sg_not (t : Bool) (n : Nat) : sg (!t) n = - sg t n := by cases t <;> simp [sg]
theorem W.sub {k : FloatKind} {x y r : Nat} {a b : Int} (hx : W k x a) (hy : W k y b) (ha : B a) (hb : B b) (hz : B (a - b)) (h : Res k (floatBits .sub k x y) r) : W k r (a - b) := by
  obtain ⟨s, rfl, e1⟩ := hx
  obtain ⟨t, rfl, e2⟩ := hy
  have e3 : sg s a.natAbs + sg (!t) b.natAbs = a - b := by rw [sg_not, e1, e2]; omega
  rw [sub_whole k s t _ _ (ha.top k) (hb.top k) (by rw [e3]; exact hz.top k), e3] at h
  exact W.of h (usum_sg _ _ _)
theorem sg_mul (s t : Bool) (n m : Nat) : sg (s ^^ t) (n * m) = sg s n * sg t m := by
  cases s <;> cases t <;> simp [sg, Int.neg_mul, Int.mul_neg]
theorem W.mul {k : FloatKind} {x y r : Nat} {a b : Int} (hx : W k x a) (hy : W k y b) (ha : B a) (hb : B b) (hz : B (a * b)) (h : Res k (floatBits .mul k x y) r) : W k r (a * b) := by
  obtain ⟨s, rfl, e1⟩ := hx
  obtain ⟨t, rfl, e2⟩ := hy
  have hn : a.natAbs * b.natAbs < top k := by rw [← Int.natAbs_mul]; exact hz.top k
  rw [mul_whole k s t _ _ (ha.top k) (hb.top k) hn] at h
  exact W.of h (by rw [sg_mul, e1, e2])
theorem W.quo {k : FloatKind} {x y r : Nat} {a q d : Int} (hx : W k x a) (hy : W k y d) (he : a = q * d) (h0 : d ≠ 0) (ha : B a) (hd : B d) (h : Res k (floatBits .quo k x y) r) : W k r q := by
  subst he
  obtain ⟨s, rfl, e1⟩ := hx
  obtain ⟨t, rfl, e2⟩ := hy
  rw [Int.natAbs_mul] at e1 h
  have hn : q.natAbs * d.natAbs < top k := by rw [← Int.natAbs_mul]; exact ha.top k
  have hd0 : d.natAbs ≠ 0 := by omega
  rw [div_whole k s t q.natAbs d.natAbs hn (hd.top k) hd0] at h
  refine W.of h ?_
  have e3 : sg (s ^^ t) (q.natAbs * d.natAbs) = sg (s ^^ t) q.natAbs * (d.natAbs : Int) := by cases s <;> cases t <;> simp [sg, Int.neg_mul, Int.mul_neg]
  have e4 : sg (s ^^ t) q.natAbs * (d.natAbs : Int) = q * (d.natAbs : Int) := by
    rw [← e3]
    have e5 : sg (s ^^ t) (q.natAbs * d.natAbs) * sg t d.natAbs = q * d.natAbs * sg t d.natAbs := by
      rw [← sg_mul, show ((s ^^ t) ^^ t) = s by cases s <;> cases t <;> rfl]
      have e6 : sg s (q.natAbs * d.natAbs * d.natAbs) = sg s (q.natAbs * d.natAbs) * (d.natAbs : Int) := by cases s <;> simp [sg, Int.neg_mul]
      rw [e6, e1, e2]
      rw [Int.mul_assoc, Int.mul_assoc, Int.mul_comm d]
    have e7 : sg t d.natAbs ≠ 0 := by rw [e2]; exact h0
    exact Int.eq_of_mul_eq_mul_right e7 e5
  exact Int.eq_of_mul_eq_mul_right (by omega) e4
theorem W.conv {k k2 : FloatKind} {x r : Nat} {a : Int} (hx : W k x a) (ha : B a) (h : ∀ v, floatToFloatBits k x k2 = some v → r = v) : W k2 r a := by
  obtain ⟨s, rfl, e1⟩ := hx
  exact ⟨s, h _ (conv_whole k k2 s _ (ha.top k) (ha.top k2)), e1⟩
theorem W.order {k : FloatKind} {x y : Nat} {a b : Int} (hx : W k x a) (hy : W k y b) (ha : B a) (hb : B b) : k.format.order x y = some (compare a b) := by
  obtain ⟨s, rfl, e1⟩ := hx
  obtain ⟨t, rfl, e2⟩ := hy
  rw [order_whole k s t _ _ (ha.top k) (hb.top k), e1, e2]
theorem W.int (k : FloatKind) (z : Int) : W k (floatOfInt k z) z := by
  refine W.of (int_whole k z) ?_
  unfold sg
  by_cases h : z < 0
  · rw [decide_eq_true h]; simp; omega
  · rw [decide_eq_false h]; simp; omega
theorem W.num {k : FloatKind} {x : Nat} {a : Int} (hx : W k x a) (ha : B a) : ¬ NaN k x := by
  obtain ⟨s, rfl, e1⟩ := hx
  intro h
  have := num_whole k s a.natAbs (ha.top k)
  unfold NaN at h
  rw [h] at this
  cases this
theorem W.zero (k : FloatKind) : W k 0 0 := ⟨false, by cases k <;> decide +kernel, by simp [sg]⟩
/-- The number without its sign. -/
def ab (x : Nat) : Nat := (bits .andNot .u64 (x : Int) 9223372036854775808).toNat
theorem N_word (n : Nat) : ∃ R, R < 9223372036854775808 ∧ ∀ s, N .f64 s n = Ieee.Format.word Ieee.double s R := by
  unfold N
  show ∃ R, R < 9223372036854775808 ∧ ∀ s, Ieee.Format.nearest Ieee.double s n 0 = _
  unfold Ieee.Format.nearest
  by_cases c : n = 0
  · exact ⟨0, by decide, fun s => by rw [if_pos c]⟩
  · refine ⟨min ((max (0 + (n.log2 : Int) - Ieee.double.fractionBits) Ieee.double.leastPlace - Ieee.double.leastPlace).toNat * Ieee.double.binade + Ieee.Toward.even.cut false (n <<< (0 - max (0 + (n.log2 : Int) - Ieee.double.fractionBits) Ieee.double.leastPlace).toNat) (max (0 + (n.log2 : Int) - Ieee.double.fractionBits) Ieee.double.leastPlace - 0).toNat) Ieee.double.infRung, Nat.lt_of_le_of_lt (Nat.min_le_right _ _) (show Ieee.double.infRung < 9223372036854775808 by decide), fun s => by rw [if_neg c]; rfl⟩
theorem ab_mod (x : Nat) (h : x < 18446744073709551616) : ab x = x % 9223372036854775808 := by
  unfold ab
  have h1 : (BitVec.ofInt 64 (x : Int)).toNat = x := by
    rw [BitVec.ofInt_natCast, BitVec.toNat_ofNat]; exact Nat.mod_eq_of_lt (by omega)
  have h2 : (~~~ (BitVec.ofInt 64 (9223372036854775808 : Int))).toNat = 2 ^ 63 - 1 := by decide
  have h3 : bits .andNot .u64 (x : Int) 9223372036854775808 = ((x % 9223372036854775808 : Nat) : Int) := by
    show IntKind.u64.wrap ((BitVec.ofInt 64 (x : Int) &&& ~~~ (BitVec.ofInt 64 (9223372036854775808 : Int))).toNat : Int) = _
    rw [BitVec.toNat_and, h1, h2, Nat.and_two_pow_sub_one_eq_mod, IntKind.wrap_u64]
    omega
  rw [h3]
  exact Int.toNat_natCast _
theorem W.ab {x : Nat} {a : Int} (hx : W .f64 x a) (ha : B a) : x < 18446744073709551616 ∧ W .f64 (ab x) (a.natAbs : Int) := by
  obtain ⟨s, rfl, e1⟩ := hx
  obtain ⟨R, hR, hw⟩ := N_word a.natAbs
  have h1 := (word_read Ieee.double s R hR).2
  have h2 : Ieee.Format.word Ieee.double s R < 18446744073709551616 := by
    unfold Ieee.Format.word
    have : Ieee.double.signWeight = 9223372036854775808 := by decide
    rw [this]
    split <;> omega
  rw [hw s]
  refine ⟨h2, ?_⟩
  rw [ab_mod _ h2]
  have h3 : Ieee.Format.word Ieee.double s R % 9223372036854775808 = R := h1
  rw [h3]
  refine ⟨false, ?_, by simp [sg]⟩
  rw [Int.natAbs_natCast, hw false]
  simp [Ieee.Format.word]
set_option exponentiation.threshold 2000 in
theorem W.fin {x : Nat} {a : Int} (hx : W .f64 x a) (ha : B a) : (FloatKind.f64.format.order x 9218868437227405311 == some .gt) = false := by
  obtain ⟨s, rfl, e1⟩ := hx
  obtain ⟨i, hi⟩ := reads .f64 s a.natAbs (ha.top .f64)
  unfold Ieee.Format.order
  rw [hi, show FloatKind.f64.format.read 9218868437227405311 = .number false 9007199254740991 971 by decide +kernel]
  simp only [Ieee.Datum.order]
  have hb : min (-(i : Int)) 971 = -(i : Int) := by omega
  have h1 : (-(i : Int) - -(i : Int)).toNat = 0 := by omega
  have h2 : ((971 : Int) - -(i : Int)).toNat = 971 + i := by omega
  rw [hb, h1, h2, signed_scale]
  have h3 : Ieee.signed false 9007199254740991 (971 + i) = (9007199254740991 : Int) * ((2 ^ (971 + i) : Nat) : Int) := by
    have := signed_scale false 9007199254740991 0 (971 + i)
    simpa [sg] using this
  rw [h3, e1]
  have h4 : (2 ^ (971 + i) : Nat) = 2 ^ 971 * 2 ^ i := Nat.pow_add 2 971 i
  have h5 : 0 < 2 ^ i := Nat.two_pow_pos i
  have h6 : a * ((2 ^ (i + 0) : Nat) : Int) < 9007199254740991 * ((2 ^ (971 + i) : Nat) : Int) := by
    rw [h4, Nat.add_zero, Int.natCast_mul, ← Int.mul_assoc]
    refine Int.mul_lt_mul_of_pos_right ?_ (by omega)
    have h7 : (1 : Int) ≤ ((2 ^ 971 : Nat) : Int) := by have := Nat.two_pow_pos 971; omega
    have := ha.2
    have h8 : (9007199254740991 : Int) * 1 ≤ 9007199254740991 * ((2 ^ 971 : Nat) : Int) := Int.mul_le_mul_of_nonneg_left h7 (by decide)
    omega
  generalize a * ((2 ^ (i + 0) : Nat) : Int) = L at h6 ⊢
  generalize 9007199254740991 * ((2 ^ (971 + i) : Nat) : Int) = M at h6 ⊢
  simp [compare, compareOfLessAndEq, h6]
end Go.Proofs.Ytplhdplebbhakaa.Wh
