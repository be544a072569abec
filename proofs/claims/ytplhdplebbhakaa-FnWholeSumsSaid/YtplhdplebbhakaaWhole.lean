/- Whole numbers as floats: add, subtract, multiply, divide without a rest, convert and compare are exact where numbers and results are small enough. No condition. -/
import Derived.Laws.FloatArith
set_option linter.unusedVariables false
set_option linter.unusedSimpArgs false
namespace Go.Proofs.Ytplhdplebbhakaa.Whole
open Ieee
/-- The float of the whole number n with sign s. -/
def N (k : FloatKind) (s : Bool) (n : Nat) : Nat := k.format.nearest s n 0
/-- Below this every whole number is a float. -/
def top (k : FloatKind) : Nat := match k with | .f32 => 16777216 | .f64 => 9007199254740992
def fb (k : FloatKind) : Nat := match k with | .f32 => 23 | .f64 => 52
theorem fb_eq (k : FloatKind) : k.format.fractionBits = fb k := by cases k <;> rfl
theorem fb_top (k : FloatKind) : top k = 2 ^ (fb k + 1) := by cases k <;> rfl
theorem lp (k : FloatKind) : k.format.leastPlace ≤ -149 := by
  cases k
  · show single.leastPlace ≤ -149; decide
  · show double.leastPlace ≤ -149; decide
theorem cut_zero (s : Bool) (n : Nat) : Toward.even.cut s n 0 = n := by
  unfold Toward.cut
  simp [Nat.mod_one]
theorem log_le {n b : Nat} (h0 : n ≠ 0) (h : n < 2 ^ (b + 1)) : n.log2 ≤ b := by
  have := (Nat.log2_lt h0).2 h
  omega
theorem log_mul (n k : Nat) (h : n ≠ 0) : (n * 2 ^ k).log2 = n.log2 + k := by
  induction k with
  | zero => simp
  | succ k ih =>
    have e : n * 2 ^ (k + 1) = 2 * (n * 2 ^ k) := by rw [Nat.pow_succ]; ac_rfl
    have hp : n * 2 ^ k ≠ 0 := Nat.mul_ne_zero h (Nat.ne_of_gt (Nat.two_pow_pos k))
    rw [e, Nat.log2_two_mul hp, ih]
    rfl
/-- What is cut is nothing. -/
theorem cut_exact (s : Bool) (n d : Nat) (h : n ≠ 0) : Toward.even.cut s (n * 2 ^ d) d = n := by
  unfold Toward.cut
  have hl := log_mul n d h
  have hm : min d ((n * 2 ^ d).log2 + 2) = d := by omega
  simp only [hm, Nat.shiftLeft_eq, Nat.one_mul]
  rw [Nat.mul_mod_left, Nat.mul_div_cancel _ (Nat.two_pow_pos d)]
  simp
/-- The nearest float asks for the number alone, not for how it is written. -/
theorem near (k : FloatKind) (s : Bool) (n j : Nat) (h : n < top k) : k.format.nearest s (n * 2 ^ j) (-(j : Int)) = N k s n := by
  unfold N Format.nearest
  by_cases c : n = 0
  · subst c
    simp
  have c2 : n * 2 ^ j ≠ 0 := Nat.mul_ne_zero c (Nat.ne_of_gt (Nat.two_pow_pos j))
  rw [if_neg c, if_neg c2, log_mul n j c]
  have hl : n.log2 ≤ fb k := log_le c (by rw [← fb_top]; exact h)
  have hp := lp k
  have hfb : fb k ≤ 52 := by cases k <;> decide
  rw [fb_eq]
  have e1 : max (-(j : Int) + ((n.log2 + j : Nat) : Int) - (fb k : Int)) k.format.leastPlace = max ((0 : Int) + (n.log2 : Int) - (fb k : Int)) k.format.leastPlace := by
    congr 1; omega
  simp only [e1]
  have e2 : max ((0 : Int) + (n.log2 : Int) - (fb k : Int)) k.format.leastPlace = (n.log2 : Int) - (fb k : Int) := by omega
  rw [e2]
  congr 3
  have e3 : ((n.log2 : Int) - (fb k : Int) - 0).toNat = 0 := by omega
  rw [e3, cut_zero]
  by_cases q : j ≤ fb k - n.log2
  · have e4 : ((n.log2 : Int) - (fb k : Int) - -(j : Int)).toNat = 0 := by omega
    rw [e4, cut_zero, Nat.shiftLeft_eq, Nat.shiftLeft_eq, Nat.mul_assoc, ← Nat.pow_add]
    congr 2
    omega
  · have e4 : (-(j : Int) - ((n.log2 : Int) - (fb k : Int))).toNat = 0 := by omega
    have e5 : ((n.log2 : Int) - (fb k : Int) - -(j : Int)).toNat = j - (fb k - n.log2) := by omega
    have e6 : ((0 : Int) - ((n.log2 : Int) - (fb k : Int))).toNat = fb k - n.log2 := by omega
    rw [e4, e5, e6, Nat.shiftLeft_eq, Nat.shiftLeft_eq, Nat.pow_zero, Nat.mul_one]
    have e7 : n * 2 ^ j = n * 2 ^ (fb k - n.log2) * 2 ^ (j - (fb k - n.log2)) := by
      rw [Nat.mul_assoc, ← Nat.pow_add]
      congr 2
      omega
    rw [e7, cut_exact _ _ _ (Nat.mul_ne_zero c (Nat.ne_of_gt (Nat.two_pow_pos _)))]
theorem word_read (f : Format) (s : Bool) (r : Nat) (h : r < f.signWeight) : (f.word s r / f.signWeight % 2 == 1) = s ∧ f.word s r % f.signWeight = r := by
  unfold Format.word
  cases s
  · simp only [Bool.false_eq_true, if_false]
    rw [Nat.div_eq_of_lt h, Nat.mod_eq_of_lt h]
    exact ⟨rfl, rfl⟩
  · simp only [if_true]
    rw [Nat.add_div_left _ (Nat.lt_of_le_of_lt (Nat.zero_le _) h), Nat.div_eq_of_lt h, Nat.add_mod_left, Nat.mod_eq_of_lt h]
    exact ⟨rfl, rfl⟩
/-- What such a float reads as: a multiple of the number, at a place below. -/
theorem reads (k : FloatKind) (s : Bool) (n : Nat) (h : n < top k) : ∃ j : Nat, k.format.read (N k s n) = .number s (n * 2 ^ j) (-(j : Int)) := by
  by_cases c : n = 0
  · subst c
    cases k
    · refine ⟨149, ?_⟩
      cases s <;> decide +kernel
    · refine ⟨1074, ?_⟩
      have e : N .f64 s 0 = double.word s 0 := rfl
      rw [e]
      unfold Format.read
      obtain ⟨h1, h2⟩ := word_read double s 0 (by decide)
      have e2 : FloatKind.f64.format = double := rfl
      simp only [e2, h1, h2, Nat.zero_mul]
      rw [if_pos (by decide)]
      rfl
  have hl : n.log2 ≤ fb k := log_le c (by rw [← fb_top]; exact h)
  have hp := lp k
  have hfb : fb k ≤ 52 := by cases k <;> decide
  refine ⟨fb k - n.log2, ?_⟩
  unfold N Format.nearest
  rw [if_neg c, fb_eq]
  have e2 : max ((0 : Int) + (n.log2 : Int) - (fb k : Int)) k.format.leastPlace = (n.log2 : Int) - (fb k : Int) := by omega
  simp only [e2]
  have e3 : ((n.log2 : Int) - (fb k : Int) - 0).toNat = 0 := by omega
  have e6 : ((0 : Int) - ((n.log2 : Int) - (fb k : Int))).toNat = fb k - n.log2 := by omega
  rw [e3, cut_zero, e6, Nat.shiftLeft_eq]
  have hb : n < 2 ^ (n.log2 + 1) := Nat.lt_log2_self
  have hb2 : 2 ^ n.log2 ≤ n := Nat.log2_self_le c
  have hK : n * 2 ^ (fb k - n.log2) < 2 ^ (fb k + 1) := by
    calc n * 2 ^ (fb k - n.log2) < 2 ^ (n.log2 + 1) * 2 ^ (fb k - n.log2) := Nat.mul_lt_mul_of_pos_right hb (Nat.two_pow_pos _)
      _ = 2 ^ (fb k + 1) := by rw [← Nat.pow_add]; congr 1; omega
  have hK2 : 2 ^ (fb k) ≤ n * 2 ^ (fb k - n.log2) := by
    calc 2 ^ (fb k) = 2 ^ n.log2 * 2 ^ (fb k - n.log2) := by rw [← Nat.pow_add]; congr 1; omega
      _ ≤ n * 2 ^ (fb k - n.log2) := Nat.mul_le_mul_right _ hb2
  generalize n * 2 ^ (fb k - n.log2) = K at *
  generalize n.log2 = l at *
  cases k
  · have q1 : (FloatKind.format .f32).binade = 8388608 := by decide
    have q2 : (FloatKind.format .f32).infRung = 2139095040 := by decide
    have q3 : (FloatKind.format .f32).leastPlace = -149 := by decide
    have q4 : (FloatKind.format .f32).signWeight = 2147483648 := by decide
    have q5 : fb .f32 = 23 := rfl
    have hK : K < 16777216 := by simpa [fb] using hK
    have hK2 : 8388608 ≤ K := by simpa [fb] using hK2
    rw [q5] at hl ⊢
    rw [q1, q2, q3]
    have hr : ((l : Int) - ((23 : Nat) : Int) - -149).toNat = l + 126 := by omega
    rw [hr, Nat.min_eq_left (by omega)]
    obtain ⟨h1, h2⟩ := word_read (FloatKind.format .f32) s ((l + 126) * 8388608 + K) (by rw [q4]; omega)
    unfold Format.read
    simp only [h1, h2, q1, q2, q3]
    rw [if_neg (by omega), if_pos (by omega)]
    congr 1
    · omega
    · omega
  · have q1 : (FloatKind.format .f64).binade = 4503599627370496 := by decide
    have q2 : (FloatKind.format .f64).infRung = 9218868437227405312 := by decide
    have q3 : (FloatKind.format .f64).leastPlace = -1074 := by decide
    have q4 : (FloatKind.format .f64).signWeight = 9223372036854775808 := by decide
    have q5 : fb .f64 = 52 := rfl
    have hK : K < 9007199254740992 := by simpa [fb] using hK
    have hK2 : 4503599627370496 ≤ K := by simpa [fb] using hK2
    rw [q5] at hl ⊢
    rw [q1, q2, q3]
    have hr : ((l : Int) - ((52 : Nat) : Int) - -1074).toNat = l + 1022 := by omega
    rw [hr, Nat.min_eq_left (by omega)]
    obtain ⟨h1, h2⟩ := word_read (FloatKind.format .f64) s ((l + 1022) * 4503599627370496 + K) (by rw [q4]; omega)
    unfold Format.read
    simp only [h1, h2, q1, q2, q3]
    rw [if_neg (by omega), if_pos (by omega)]
    congr 1
    · omega
    · omega
/-- The signed number. -/
def sg (s : Bool) (n : Nat) : Int := if s then -(n : Int) else n
theorem signed_scale (s : Bool) (n j d : Nat) : signed s (n * 2 ^ j) d = sg s n * ((2 ^ (j + d) : Nat) : Int) := by
  unfold signed sg
  rw [Nat.shiftLeft_eq, Nat.mul_assoc, ← Nat.pow_add]
  cases s <;> simp <;> push_cast <;> first | rfl | (rw [Int.neg_mul])
theorem scale_ne {z : Int} {p : Nat} (hp : 0 < p) : z * (p : Int) = 0 ↔ z = 0 := by
  constructor
  · intro h
    rcases Int.mul_eq_zero.1 h with h | h
    · exact h
    · omega
  · intro h; rw [h, Int.zero_mul]
theorem scale_lt {z : Int} {p : Nat} (hp : 0 < p) : z * (p : Int) < 0 ↔ z < 0 := by
  constructor
  · intro h
    apply Decidable.byContradiction
    intro q
    have : 0 ≤ z * (p : Int) := Int.mul_nonneg (by omega) (by omega)
    omega
  · intro h
    exact Int.mul_neg_of_neg_of_pos h (by omega)
/-- The sign of a sum. -/
def usum (s t : Bool) (z : Int) : Bool := if z = 0 then s && t else decide (z < 0)
theorem sum_at (k : FloatKind) (s t : Bool) (n m i j : Nat) (hz : (sg s n + sg t m).natAbs < top k) :
    ((Datum.number s (n * 2 ^ i) (-(i : Int))).sum (.number t (m * 2 ^ j) (-(j : Int)))).map k.format.write = some (N k (usum s t (sg s n + sg t m)) (sg s n + sg t m).natAbs) := by
  simp only [Datum.sum, Option.map_some]
  congr 1
  have hb : min (-(i : Int)) (-(j : Int)) = -((max i j : Nat) : Int) := by omega
  rw [hb]
  have h1 : (-(i : Int) - -((max i j : Nat) : Int)).toNat = max i j - i := by omega
  have h2 : (-(j : Int) - -((max i j : Nat) : Int)).toNat = max i j - j := by omega
  rw [h1, h2, signed_scale, signed_scale, show i + (max i j - i) = max i j by omega, show j + (max i j - j) = max i j by omega, ← Int.add_mul]
  have hp := Nat.two_pow_pos (max i j)
  generalize sg s n + sg t m = z at *
  generalize max i j = b at *
  show k.format.nearest _ _ _ = _
  rw [Int.natAbs_mul, Int.natAbs_natCast]
  rw [near k _ _ _ hz]
  congr 1
  unfold usum
  simp only [scale_ne hp, scale_lt hp]
theorem add_whole (k : FloatKind) (s t : Bool) (n m : Nat) (hn : n < top k) (hm : m < top k) (hz : (sg s n + sg t m).natAbs < top k) :
    floatBits .add k (N k s n) (N k t m) = some (N k (usum s t (sg s n + sg t m)) (sg s n + sg t m).natAbs) := by
  obtain ⟨i, hi⟩ := reads k s n hn
  obtain ⟨j, hj⟩ := reads k t m hm
  show (((k.format.read (N k s n)).sum (k.format.read (N k t m))).map k.format.write) = _
  rw [hi, hj]
  exact sum_at k s t n m i j hz
theorem sub_whole (k : FloatKind) (s t : Bool) (n m : Nat) (hn : n < top k) (hm : m < top k) (hz : (sg s n + sg (!t) m).natAbs < top k) :
    floatBits .sub k (N k s n) (N k t m) = some (N k (usum s (!t) (sg s n + sg (!t) m)) (sg s n + sg (!t) m).natAbs) := by
  obtain ⟨i, hi⟩ := reads k s n hn
  obtain ⟨j, hj⟩ := reads k t m hm
  show (((k.format.read (N k s n)).sum (k.format.read (N k t m)).opposite).map k.format.write) = _
  rw [hi, hj]
  exact sum_at k s (!t) n m i j hz
theorem mul_whole (k : FloatKind) (s t : Bool) (n m : Nat) (hn : n < top k) (hm : m < top k) (hz : n * m < top k) :
    floatBits .mul k (N k s n) (N k t m) = some (N k (s ^^ t) (n * m)) := by
  obtain ⟨i, hi⟩ := reads k s n hn
  obtain ⟨j, hj⟩ := reads k t m hm
  show (((k.format.read (N k s n)).product (k.format.read (N k t m))).map k.format.write) = _
  rw [hi, hj]
  simp only [Datum.product, Option.map_some]
  congr 1
  show k.format.nearest _ _ _ = _
  have e1 : n * 2 ^ i * (m * 2 ^ j) = n * m * 2 ^ (i + j) := by rw [Nat.pow_add]; ac_rfl
  have e2 : -(i : Int) + -(j : Int) = -((i + j : Nat) : Int) := by omega
  rw [e1, e2]
  exact near k _ _ _ hz
theorem div_whole (k : FloatKind) (s t : Bool) (q m : Nat) (hn : q * m < top k) (hm : m < top k) (h0 : m ≠ 0) :
    floatBits .quo k (N k s (q * m)) (N k t m) = some (N k (s ^^ t) q) := by
  have hq : q < top k := Nat.lt_of_le_of_lt (Nat.le_mul_of_pos_right q (Nat.pos_of_ne_zero h0)) hn
  obtain ⟨i, hi⟩ := reads k s (q * m) hn
  obtain ⟨j, hj⟩ := reads k t m hm
  show (((k.format.read (N k s (q * m))).quotient (k.format.fractionBits + 2) (k.format.read (N k t m))).map k.format.write) = _
  rw [hi, hj]
  have hm2 : m * 2 ^ j ≠ 0 := Nat.mul_ne_zero h0 (Nat.ne_of_gt (Nat.two_pow_pos j))
  simp only [Datum.quotient, Option.map_some, if_neg hm2]
  rw [log_mul m j h0, fb_eq]
  by_cases c : q = 0
  · subst c
    simp only [Nat.zero_mul, Nat.zero_shiftLeft, Nat.zero_div, Nat.zero_mod, Nat.mul_zero, Nat.log2_zero, Option.map_some]
    refine congrArg some ?_
    show k.format.nearest _ _ _ = _
    unfold N Format.nearest
    simp
  have hqm : q * m ≠ 0 := Nat.mul_ne_zero c h0
  rw [log_mul (q * m) i hqm]
  have hl : (q * m).log2 ≤ fb k := log_le hqm (by rw [← fb_top]; exact hn)
  refine congrArg some ?_
  show k.format.nearest _ _ _ = _
  generalize hM : fb k + 2 + (m.log2 + j) - ((q * m).log2 + i) = more
  rw [Nat.shiftLeft_eq]
  have hcases : j ≤ i + more := by omega
  have e1 : q * m * 2 ^ i * 2 ^ more = (q * 2 ^ (i + more - j)) * (m * 2 ^ j) := by
    have : 2 ^ i * 2 ^ more = 2 ^ (i + more - j) * 2 ^ j := by rw [← Nat.pow_add, ← Nat.pow_add]; congr 1; omega
    calc q * m * 2 ^ i * 2 ^ more = q * m * (2 ^ i * 2 ^ more) := by ac_rfl
      _ = q * m * (2 ^ (i + more - j) * 2 ^ j) := by rw [this]
      _ = _ := by ac_rfl
  rw [e1, Nat.mul_div_cancel _ (Nat.pos_of_ne_zero hm2), Nat.mul_mod_left]
  have e2 : 2 * (q * 2 ^ (i + more - j)) + (0 != 0 : Bool).toNat = q * 2 ^ (i + more - j + 1) := by
    rw [Nat.pow_succ]; simp; ac_rfl
  have e3 : -(i : Int) - -(j : Int) - (more : Int) - 1 = -((i + more - j + 1 : Nat) : Int) := by omega
  rw [e2, e3]
  exact near k _ _ _ hq
theorem not_inf (k : FloatKind) (s : Bool) (n : Nat) (h : n < top k) : (k.decode (N k s n)).isInfinity = false := by
  obtain ⟨j, hj⟩ := reads k s n h
  show (k.format.read (N k s n)).isInfinity = false
  rw [hj]
  rfl
theorem conv_whole (k k2 : FloatKind) (s : Bool) (n : Nat) (h : n < top k) (h2 : n < top k2) : floatToFloatBits k (N k s n) k2 = some (N k2 s n) := by
  unfold floatToFloatBits
  by_cases e : k = k2
  · subst e; rw [if_pos rfl]
  · rw [if_neg e]
    obtain ⟨j, hj⟩ := reads k s n h
    have hd : k.decode (N k s n) = .number s (n * 2 ^ j) (-(j : Int)) := hj
    rw [hd]
    have hw : k2.encode (.number s (n * 2 ^ j) (-(j : Int))) = N k2 s n := near k2 s n j h2
    simp only [hw, not_inf k2 s n h2, Bool.false_eq_true, if_false]
theorem int_whole (k : FloatKind) (z : Int) : floatOfInt k z = N k (decide (z < 0)) z.natAbs := rfl
theorem cmp_scale (x y : Int) (p : Nat) (hp : 0 < p) : compare (x * (p : Int)) (y * (p : Int)) = compare x y := by
  have hpi : (0 : Int) < p := by omega
  rcases Int.lt_trichotomy x y with h | h | h
  · rw [show compare x y = .lt from by simp [compare, compareOfLessAndEq, h], show compare (x * (p : Int)) (y * (p : Int)) = .lt from by simp [compare, compareOfLessAndEq, Int.mul_lt_mul_of_pos_right h hpi]]
  · subst h
    simp [compare, compareOfLessAndEq]
  · have h2 := Int.mul_lt_mul_of_pos_right h hpi
    rw [show compare x y = .gt from by simp [compare, compareOfLessAndEq, show ¬ x < y by omega, show ¬ x = y by omega], show compare (x * (p : Int)) (y * (p : Int)) = .gt from by simp [compare, compareOfLessAndEq, show ¬ x * (p : Int) < y * (p : Int) by omega, show ¬ x * (p : Int) = y * (p : Int) by omega]]
theorem order_whole (k : FloatKind) (s t : Bool) (n m : Nat) (hn : n < top k) (hm : m < top k) : k.format.order (N k s n) (N k t m) = some (compare (sg s n) (sg t m)) := by
  obtain ⟨i, hi⟩ := reads k s n hn
  obtain ⟨j, hj⟩ := reads k t m hm
  unfold Format.order
  rw [hi, hj]
  simp only [Datum.order]
  have hb : min (-(i : Int)) (-(j : Int)) = -((max i j : Nat) : Int) := by omega
  rw [hb]
  have h1 : (-(i : Int) - -((max i j : Nat) : Int)).toNat = max i j - i := by omega
  have h2 : (-(j : Int) - -((max i j : Nat) : Int)).toNat = max i j - j := by omega
  rw [h1, h2, signed_scale, signed_scale, show i + (max i j - i) = max i j by omega, show j + (max i j - j) = max i j by omega, cmp_scale _ _ _ (Nat.two_pow_pos _)]
theorem num_whole (k : FloatKind) (s : Bool) (n : Nat) (hn : n < top k) : (k.format.read (N k s n)).isNaN = false := by
  obtain ⟨i, hi⟩ := reads k s n hn
  rw [hi]
  rfl
end Go.Proofs.Ytplhdplebbhakaa.Whole
