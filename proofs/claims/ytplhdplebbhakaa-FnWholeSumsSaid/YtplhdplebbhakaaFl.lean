/- Floats: what an operation hands back (a NaN's bits are not told), for a walk. No condition. -/
import Derived.WalkKit
import Derived.WalkLawsBesides
import Derived.Laws.FloatArith
import Derived.RowKit3
import Derived.Below
import Derived.KernelRfl
import Derived.Deep.Draws
import Derived.Handy
set_option linter.unusedVariables false
set_option linter.unusedSimpArgs false
namespace Go.Proofs.Ytplhdplebbhakaa.Fl
open Go.RowKit
section
variable {P : Program} (w : World) (a : Addr) (m : Mode)
@[go_sem] theorem run_store_float (k : FloatKind) (b : Nat) : (store a (.float k b) m).run P w = stored P w a (.float k b) m := run_store P w a _ m rfl
end
/-- The bits stand for no number. -/
def NaN (k : FloatKind) (r : Nat) : Prop := (k.format.read r).isNaN = true
/-- What an operation hands back: its result's bits, or some NaN's. -/
def Res (k : FloatKind) (o : Option Nat) (r : Nat) : Prop := match o with | some v => r = v | none => NaN k r
/-- The same number, or both none. -/
def Alike (k : FloatKind) (a b : Nat) : Prop := (NaN k a ∧ NaN k b) ∨ a = b
theorem Alike.refl (k : FloatKind) (a : Nat) : Alike k a a := Or.inr rfl
theorem Alike.symm {k : FloatKind} {a b : Nat} (h : Alike k a b) : Alike k b a := h.elim (fun q => Or.inl ⟨q.2, q.1⟩) (fun q => Or.inr q.symm)
theorem nan_datum {d : Ieee.Datum} (h : d.isNaN = true) : ∃ s t, d = .nan s t := by
  cases d with
  | nan s t => exact ⟨s, t, rfl⟩
  | number s m e => cases h
  | infinity s => cases h
theorem nan_left {op : BinOp} {k : FloatKind} {x : Nat} (y : Nat) (h : NaN k x) : floatBits op k x y = none := by
  obtain ⟨s, t, e⟩ := nan_datum h
  unfold floatBits
  cases op <;> first | rfl | (simp [Ieee.Format.add, Ieee.Format.sub, Ieee.Format.mul, Ieee.Format.div, e, Ieee.Datum.sum, Ieee.Datum.product, Ieee.Datum.quotient])
theorem nan_opp {d : Ieee.Datum} (h : d.isNaN = true) : ∃ s t, d.opposite = .nan s t := by
  obtain ⟨s, t, rfl⟩ := nan_datum h
  exact ⟨_, _, rfl⟩
theorem nan_right {op : BinOp} {k : FloatKind} (x : Nat) {y : Nat} (h : NaN k y) : floatBits op k x y = none := by
  obtain ⟨s, t, e⟩ := nan_datum h
  unfold floatBits
  cases op <;> first | rfl | (cases q : k.format.read x <;> simp [Ieee.Format.add, Ieee.Format.sub, Ieee.Format.mul, Ieee.Format.div, e, q, Ieee.Datum.sum, Ieee.Datum.product, Ieee.Datum.quotient, Ieee.Datum.opposite])
theorem Res.alike {op : BinOp} {k : FloatKind} {x x' y y' r r' : Nat} (hx : Alike k x x') (hy : Alike k y y') (h : Res k (floatBits op k x y) r) (h' : Res k (floatBits op k x' y') r') : Alike k r r' := by
  rcases hx with ⟨n, n'⟩ | rfl
  · rw [nan_left _ n] at h
    rw [nan_left _ n'] at h'
    exact Or.inl ⟨h, h'⟩
  · rcases hy with ⟨n, n'⟩ | rfl
    · rw [nan_right _ n] at h
      rw [nan_right _ n'] at h'
      exact Or.inl ⟨h, h'⟩
    · cases q : floatBits op k x y with
      | some v => rw [q] at h h'; exact Or.inr (Eq.trans h (Eq.symm h'))
      | none => rw [q] at h h'; exact Or.inl ⟨h, h'⟩
/-- The bits that the model names for a NaN are a NaN's. -/
theorem cut_nan (k : FloatKind) (x y t : Nat) : NaN k ((Question.nanBits k x y).cut t) := by
  cases k
  · unfold NaN Question.cut Ieee.Format.read
    have h : ∀ n, n < 2 ^ 23 - 1 → ∀ s, s < 2 → ((s * 2 ^ 31 + 0x7f800000 + 1 + n) % (FloatKind.format .f32).signWeight) = 0x7f800000 + 1 + n := by
      intro n hn s hs
      show (s * 2 ^ 31 + 0x7f800000 + 1 + n) % 2 ^ 31 = _
      omega
    have h2 := h ((t / 2) % (2 ^ 23 - 1)) (Nat.mod_lt _ (by decide)) (t % 2) (Nat.mod_lt _ (by decide))
    simp only [h2]
    have e1 : (FloatKind.format .f32).binade = 8388608 := by decide
    have e2 : (FloatKind.format .f32).infRung = 2139095040 := by decide
    rw [e1, e2, if_neg (by omega), if_neg (by omega), if_neg (by omega)]
    rfl
  · unfold NaN Question.cut Ieee.Format.read
    have h : ∀ n, n < 2 ^ 52 - 1 → ∀ s, s < 2 → ((s * 2 ^ 63 + 0x7ff0000000000000 + 1 + n) % (FloatKind.format .f64).signWeight) = 0x7ff0000000000000 + 1 + n := by
      intro n hn s hs
      show (s * 2 ^ 63 + 0x7ff0000000000000 + 1 + n) % 2 ^ 63 = _
      omega
    have h2 := h ((t / 2) % (2 ^ 52 - 1)) (Nat.mod_lt _ (by decide)) (t % 2) (Nat.mod_lt _ (by decide))
    simp only [h2]
    have e1 : (FloatKind.format .f64).binade = 4503599627370496 := by decide
    have e2 : (FloatKind.format .f64).infRung = 9218868437227405312 := by decide
    rw [e1, e2, if_neg (by omega), if_neg (by omega), if_neg (by omega)]
    rfl
theorem cut_nan_conv (k : FloatKind) (x t : Nat) : NaN k ((Question.nanConv k x).cut t) := by
  have := cut_nan k x x t
  cases k <;> exact this
section
variable {P : Program} {ops : Array Oper} {rest : List Oper} {o : Oper} {a : Act} {Q : Exit → Act → World → Prop} {w : World}
theorem wpList_farith (hg : o.guard = none) {op : BinOp} {t t2 : TypeId} {p q : Operand} (ho : o.op = .binOp op t p q t2) (hop : op = .add ∨ op = .sub ∨ op = .mul ∨ op = .quo) {k : FloatKind} {x y : Nat}
    (hp : a.eval p = .float k x) (hq : a.eval q = .float k y) (hK : ∀ r n, Res k (floatBits op k x y) r → wpList P ops Q rest (a.put o.dst (.float k r)) (w.drewN n)) : wpList P ops Q (o :: rest) a w := by
  refine wpList_plain hg fun K' hK' => ?_
  have hrun : ∃ r n, Res k (floatBits op k x y) r ∧ (binOp op t (.float k x) (.float k y)).run P w = .ok (.float k r) (w.drewN n) := by
    cases e : floatBits op k x y with
    | some v => exact ⟨v, 0, rfl, run_float_arith w op t k x y v e⟩
    | none =>
      refine ⟨(Question.nanBits k x y).cut (w.tape w.drawn (.nanBits k x y)), 1, cut_nan k x y _, ?_⟩
      rcases hop with rfl | rfl | rfl | rfl <;> (simp only [floatBits] at e; simp [binOp, Op.floatArith, e]; rfl)
  obtain ⟨r, n, hr, hrun⟩ := hrun
  have hg2 : (eqGuard op t p q (.float k x) (.float k y)).run P w = .ok () w := by rcases hop with rfl | rfl | rfl | rfl <;> rfl
  unfold Oper.wp
  simp [execOp, ho, hp, hq, hg2, hrun, Result.andThen]
  exact hK' _ _ (hK r n hr)
theorem wpList_fconv (hg : o.guard = none) {s d : TypeId} {p : Operand} (ho : o.op = .convert s d p) {us : TypeDesc} (hs : P.underlying s = some us) {k k2 : FloatKind} (hd : P.underlying d = some (.float k2)) {x : Nat}
    (hp : a.eval p = .float k x) (hK : ∀ r n, (k = k2 → r = x) → (NaN k x → NaN k2 r) → (∀ v, floatToFloatBits k x k2 = some v → r = v) → wpList P ops Q rest (a.put o.dst (.float k2 r)) (w.drewN n)) : wpList P ops Q (o :: rest) a w := by
  refine wpList_plain hg fun K' hK' => ?_
  have hrun : ∃ r n, ((k = k2 → r = x) ∧ (NaN k x → NaN k2 r) ∧ (∀ v, floatToFloatBits k x k2 = some v → r = v)) ∧ (convert s d (.float k x)).run P w = .ok (.float k2 r) (w.drewN n) := by
    have hc : (convert s d (.float k x)).run P w = (Conv.floatToFloat k x k2).run P w := by cases us <;> simp [convert, run_underlying hs, run_underlying hd]
    rw [hc]
    unfold Conv.floatToFloat
    by_cases e : k = k2
    · subst e
      exact ⟨x, 0, ⟨fun _ => rfl, fun h => h, fun v h => by unfold floatToFloatBits at h; rw [if_pos rfl] at h; exact Option.some.inj h⟩, by simp; rfl⟩
    · simp only [if_neg e]
      cases q : k.decode x with
      | nan s t =>
        refine ⟨(Question.nanConv k2 x).cut (w.tape w.drawn (.nanConv k2 x)), 1, ⟨fun h => absurd h e, fun _ => cut_nan_conv k2 x _, fun v h => ?_⟩, by simp; rfl⟩
        unfold floatToFloatBits at h
        rw [if_neg e, q] at h
        cases h
      | infinity s =>
        refine ⟨k2.encode (.infinity s), 0, ⟨fun h => absurd h e, fun h => ?_, fun v h => ?_⟩, by simp; rfl⟩
        · unfold NaN at h
          rw [show k.format.read x = k.decode x from rfl, q] at h
          cases h
        · unfold floatToFloatBits at h
          rw [if_neg e, q] at h
          exact Option.some.inj h
      | number s m i =>
        have hn : NaN k x → False := by
          intro h
          unfold NaN at h
          rw [show k.format.read x = k.decode x from rfl, q] at h
          cases h
        by_cases c : (k2.decode (k2.encode (.number s m i))).isInfinity = true
        · refine ⟨(Question.floatToFloat x).cut (w.tape w.drawn (.floatToFloat x)), 1, ⟨fun h => absurd h e, fun h => (hn h).elim, fun v h => ?_⟩, by simp [c]; rfl⟩
          unfold floatToFloatBits at h
          rw [if_neg e, q] at h
          simp [c] at h
        · refine ⟨k2.encode (.number s m i), 0, ⟨fun h => absurd h e, fun h => (hn h).elim, fun v h => ?_⟩, by simp [c]; rfl⟩
          unfold floatToFloatBits at h
          rw [if_neg e, q] at h
          simp [c] at h
          exact h
  obtain ⟨r, n, ⟨h1, h2, h3⟩, hrun⟩ := hrun
  unfold Oper.wp
  simp [execOp, ho, hp, hrun, Result.andThen]
  exact hK' _ _ (hK r n h1 h2 h3)
end
/-! float32 to float64: never too great -/
theorem read_single (x : Nat) : (Ieee.Format.read Ieee.single x).isNaN = true ∨ (∃ s, Ieee.Format.read Ieee.single x = .infinity s) ∨ ∃ s m e, Ieee.Format.read Ieee.single x = .number s m e ∧ m < 2 ^ 24 ∧ -149 ≤ e ∧ e ≤ 104 := by
  have e1 : Ieee.single.binade = 8388608 := by decide
  have e2 : Ieee.single.infRung = 2139095040 := by decide
  have e3 : Ieee.single.leastPlace = -149 := by decide
  unfold Ieee.Format.read
  simp only [e1, e2, e3]
  split
  · exact Or.inr (Or.inr ⟨_, _, _, rfl, by omega, by omega, by omega⟩)
  · split
    · exact Or.inr (Or.inr ⟨_, _, _, rfl, by omega, by omega, by omega⟩)
    · split
      · exact Or.inr (Or.inl ⟨_, rfl⟩)
      · exact Or.inl rfl
theorem word_rung (f : Ieee.Format) (s : Bool) (r : Nat) (h : r < f.signWeight) : f.word s r % f.signWeight = r := by
  unfold Ieee.Format.word
  split
  · rw [Nat.add_mod_left, Nat.mod_eq_of_lt h]
  · exact Nat.mod_eq_of_lt h
theorem not_inf (s : Bool) (r : Nat) (h : r < Ieee.double.infRung) : (Ieee.double.read (Ieee.double.word s r)).isInfinity = false := by
  have e2 : Ieee.double.infRung = 9218868437227405312 := by decide
  have e3 : Ieee.double.signWeight = 9223372036854775808 := by decide
  have hw := word_rung Ieee.double s r (by omega)
  unfold Ieee.Format.read
  simp only [hw]
  split
  · rfl
  · first | rfl | (rw [if_pos h]; rfl)
theorem cut_zero (s : Bool) (n : Nat) : Ieee.Toward.even.cut s n 0 = n := by
  unfold Ieee.Toward.cut
  simp [Nat.mod_one]
theorem nearest_double (s : Bool) (m : Nat) (e : Int) (hm : m < 2 ^ 24) (h0 : -149 ≤ e) (h1 : e ≤ 104) : ∃ r, r < Ieee.double.infRung ∧ Ieee.double.nearest s m e = Ieee.double.word s r := by
  have e1 : Ieee.double.binade = 4503599627370496 := by decide
  have e2 : Ieee.double.infRung = 9218868437227405312 := by decide
  have e3 : Ieee.double.leastPlace = -1074 := by decide
  have e4 : (Ieee.double.fractionBits : Int) = 52 := by decide
  unfold Ieee.Format.nearest
  by_cases c : m = 0
  · rw [if_pos c]; exact ⟨0, by omega, rfl⟩
  · rw [if_neg c]
    have hl : m.log2 ≤ 23 := by
      have := (Nat.log2_lt c).2 hm
      omega
    have hlast : max (e + m.log2 - Ieee.double.fractionBits) Ieee.double.leastPlace = e + m.log2 - 52 := by rw [e3, e4]; omega
    simp only [hlast]
    have hd : (e + m.log2 - 52 - e).toNat = 0 := by omega
    rw [hd, cut_zero, e1, e2, e3]
    have hb : m < 2 ^ (m.log2 + 1) := Nat.lt_log2_self
    have hs : (e - (e + m.log2 - 52)).toNat = 52 - m.log2 := by omega
    rw [hs, Nat.shiftLeft_eq]
    have hk : m * 2 ^ (52 - m.log2) < 2 ^ 53 := by
      calc m * 2 ^ (52 - m.log2) < 2 ^ (m.log2 + 1) * 2 ^ (52 - m.log2) := Nat.mul_lt_mul_of_pos_right hb (Nat.two_pow_pos _)
        _ = 2 ^ 53 := by rw [← Nat.pow_add]; congr 1; omega
    generalize m * 2 ^ (52 - m.log2) = K at *
    have hr : (e + m.log2 - 52 - -1074).toNat * 4503599627370496 + K < 9218868437227405312 := by omega
    exact ⟨_, hr, by rw [Nat.min_eq_left (by omega)]⟩
theorem widen_some (x : Nat) (h : ¬ NaN .f32 x) : ∃ v, floatToFloatBits .f32 x .f64 = some v := by
  unfold floatToFloatBits
  rw [if_neg (by decide)]
  rcases read_single x with q | ⟨s, q⟩ | ⟨s, m, e, q, hm, h0, h1⟩
  · exact absurd q h
  · rw [show FloatKind.f32.decode x = .infinity s from q]
    exact ⟨_, rfl⟩
  · rw [show FloatKind.f32.decode x = .number s m e from q]
    obtain ⟨r, hr, e2⟩ := nearest_double s m e hm h0 h1
    have hn : (FloatKind.f64.decode (FloatKind.f64.encode (.number s m e))).isInfinity = false := by
      show (Ieee.double.read (Ieee.double.nearest s m e)).isInfinity = false
      rw [e2]
      exact not_inf s r hr
    simp only [hn]
    exact ⟨_, rfl⟩
/-- What float64(x) gives of a float32's bits. -/
def Wid (x r : Nat) : Prop := (NaN .f32 x → NaN .f64 r) ∧ ∀ v, floatToFloatBits .f32 x .f64 = some v → r = v
theorem Wid.mk {x r : Nat} (h1 : NaN .f32 x → NaN .f64 r) (h2 : ∀ v, floatToFloatBits .f32 x .f64 = some v → r = v) : Wid x r := ⟨h1, h2⟩
theorem Wid.alike {x y r s : Nat} (h : Alike .f32 x y) (hx : Wid x r) (hy : Wid y s) : Alike .f64 r s := by
  rcases h with ⟨n, n'⟩ | rfl
  · exact Or.inl ⟨hx.1 n, hy.1 n'⟩
  · by_cases n : NaN .f32 x
    · exact Or.inl ⟨hx.1 n, hy.1 n⟩
    · obtain ⟨v, hv⟩ := widen_some x n
      exact Or.inr ((hx.2 v hv).trans (hy.2 v hv).symm)
end Go.Proofs.Ytplhdplebbhakaa.Fl
