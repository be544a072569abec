/- FnLaw returns true at every slice of bytes: each of the 256 numbers comes back from its level, and a drawn level is off by no more than a 16th of it and 8. No condition. -/
import Derived.Test.YteaelhdcmnhcbaaSFnLaw
set_option linter.unusedVariables false
set_option linter.unusedSimpArgs false
namespace Go.Proofs.Yteaelhdcmnhcbaa.Pure
open Go.RowKit Go.Proofs.Yteaelhdcmnhcbaa.PFnLaw Go.Proofs.Yteaelhdcmnhcbaa.SFnLaw Go.Proofs.YteaelhdcmnhcbaaW.PrintWords Go.Proofs.YteaelhdcmnhcbaaW.PrintLast Go.Proofs.YteaelhdcmnhcbaaW.PrintMore
theorem w64 {x : Int} (h : -9000000000000000000 ≤ x ∧ x ≤ 9000000000000000000) : wrap64 x = x := by unfold wrap64; omega
theorem rd_at (l : List Int) (i : Int) (h0 : 0 ≤ i) (h1 : i < l.length) : l[i.toNat]? = some (rd l i) := by
  simp [rd, List.getD_eq_getElem?_getD, List.getElem?_eq_getElem (show i.toNat < l.length by omega)]


theorem in_eq (x a b : Int) : impl_in.f x a b = some (decide (a ≤ x ∧ x ≤ b)) := by
  unfold impl_in.f
  by_cases h : x ≥ a
  · rw [if_pos h]; simp; intro _; exact h
  · rw [if_neg h]; simp; omega
theorem l1_eq (x a b : Int) : spec_l1In.f x a b = some (decide (a ≤ x ∧ x ≤ b)) := in_eq x a b
def absV (x : Int) : Int := if x < 0 then -x else x
def fromC (b : Int) : Int :=
  let e := b % 128 / 16
  let m := b % 16
  let x := if e = 0 then 16 * m + 8 else (16 * m + 264) * 2 ^ (e - 1).toNat
  if b ≥ 128 then -x else x
theorem from_tab : ∀ n : Fin 256, impl_FromLaw.f (n.val : Int) = some (fromC (n.val : Int)) ∧ spec_FromLaw.f (n.val : Int) = some (fromC (n.val : Int)) ∧ -33000 ≤ fromC (n.val : Int) ∧ fromC (n.val : Int) ≤ 33000 := by decide +kernel
theorem from_at (b : Int) (h0 : 0 ≤ b) (h1 : b < 256) : impl_FromLaw.f b = some (fromC b) ∧ spec_FromLaw.f b = some (fromC b) ∧ -33000 ≤ fromC b ∧ fromC b ≤ 33000 := by
  have h := from_tab ⟨b.toNat, by omega⟩
  simpa only [Int.toNat_of_nonneg h0] using h
def invC (x : Int) : Int :=
  let a := absV x
  let j := if a < 256 then a / 16 else if a < 512 then 16 + (a / 16 - 16) else if a < 1024 then 32 + (a / 32 - 16) else if a < 2048 then 48 + (a / 64 - 16) else if a < 4096 then 64 + (a / 128 - 16) else if a < 8192 then 80 + (a / 256 - 16) else if a < 16384 then 96 + (a / 512 - 16) else 112 + (a / 1024 - 16)
  if x < 0 then j + 128 else j
theorem inv_tab : ∀ n : Fin 256, invC (fromC (n.val : Int)) = (n.val : Int) := by decide +kernel
theorem from_inj (a b : Int) (ha : 0 ≤ a ∧ a < 256) (hb : 0 ≤ b ∧ b < 256) (h : fromC a = fromC b) : a = b := by
  have h1 := inv_tab ⟨a.toNat, by omega⟩
  have h2 := inv_tab ⟨b.toNat, by omega⟩
  simp only [Int.toNat_of_nonneg ha.1, Int.toNat_of_nonneg hb.1] at h1 h2
  rw [← h1, ← h2, h]
theorem from_in_tab : ∀ n : Fin 256, -32767 ≤ fromC (n.val : Int) ∧ fromC (n.val : Int) ≤ 32767 := by decide +kernel
theorem from_in (b : Int) (h0 : 0 ≤ b) (h1 : b ≤ 255) : -32767 ≤ fromC b ∧ fromC b ≤ 32767 := by
  have h := from_in_tab ⟨b.toNat, by omega⟩
  simpa only [Int.toNat_of_nonneg h0] using h
theorem inv_near (x : Int) (hx : -32767 ≤ x ∧ x ≤ 32767) : (0 ≤ invC x ∧ invC x < 256) ∧ absV (fromC (invC x) - x) ≤ absV x / 16 + 8 := by
  have ha : 0 ≤ absV x ∧ absV x ≤ 32767 ∧ (absV x = x ∨ absV x = -x) ∧ (x < 0 → absV x = -x) ∧ (0 ≤ x → absV x = x) := by unfold absV; split <;> omega
  obtain ⟨a0, a1, a2, a3, a4⟩ := ha
  have part : ∀ (e m : Int), 0 ≤ e → e ≤ 7 → 0 ≤ m → m ≤ 15 → fromC (16 * e + m) = (if e = 0 then 16 * m + 8 else (16 * m + 264) * 2 ^ (e - 1).toNat) ∧ fromC (16 * e + m + 128) = -(if e = 0 then 16 * m + 8 else (16 * m + 264) * 2 ^ (e - 1).toNat) := by
    intro e m h0 h1 h2 h3
    have e1 : (16 * e + m) % 128 / 16 = e := by omega
    have e2 : (16 * e + m) % 16 = m := by omega
    have e3 : (16 * e + m + 128) % 128 / 16 = e := by omega
    have e4 : (16 * e + m + 128) % 16 = m := by omega
    constructor
    · unfold fromC
      simp only [e1, e2]
      rw [if_neg (show ¬ 16 * e + m ≥ 128 by omega)]
    · unfold fromC
      simp only [e3, e4]
      rw [if_pos (show 16 * e + m + 128 ≥ 128 by omega)]
  have done_ : ∀ (e m v : Int), 0 ≤ e → e ≤ 7 → 0 ≤ m → m ≤ 15 → (if e = 0 then 16 * m + 8 else (16 * m + 264) * 2 ^ (e - 1).toNat) = v → -(absV x / 16 + 8) ≤ v - absV x → v - absV x ≤ absV x / 16 + 8 → (invC x = if x < 0 then 16 * e + m + 128 else 16 * e + m) →
      (0 ≤ invC x ∧ invC x < 256) ∧ absV (fromC (invC x) - x) ≤ absV x / 16 + 8 := by
    intro e m v h0 h1 h2 h3 hv hlo hhi hi
    obtain ⟨p1, p2⟩ := part e m h0 h1 h2 h3
    rw [hv] at p1 p2
    rw [hi]
    by_cases c : x < 0
    · have := a3 c
      rw [if_pos c, p2]
      refine ⟨by omega, ?_⟩
      generalize absV x = a at *
      unfold absV
      split <;> omega
    · have := a4 (by omega)
      rw [if_neg c, p1]
      refine ⟨by omega, ?_⟩
      generalize absV x = a at *
      unfold absV
      split <;> omega
  have hinv : invC x = if x < 0 then (if absV x < 256 then absV x / 16 else if absV x < 512 then 16 + (absV x / 16 - 16) else if absV x < 1024 then 32 + (absV x / 32 - 16) else if absV x < 2048 then 48 + (absV x / 64 - 16) else if absV x < 4096 then 64 + (absV x / 128 - 16) else if absV x < 8192 then 80 + (absV x / 256 - 16) else if absV x < 16384 then 96 + (absV x / 512 - 16) else 112 + (absV x / 1024 - 16)) + 128 else (if absV x < 256 then absV x / 16 else if absV x < 512 then 16 + (absV x / 16 - 16) else if absV x < 1024 then 32 + (absV x / 32 - 16) else if absV x < 2048 then 48 + (absV x / 64 - 16) else if absV x < 4096 then 64 + (absV x / 128 - 16) else if absV x < 8192 then 80 + (absV x / 256 - 16) else if absV x < 16384 then 96 + (absV x / 512 - 16) else 112 + (absV x / 1024 - 16)) := rfl
  by_cases c1 : absV x < 256
  · simp only [if_pos c1] at hinv
    exact done_ 0 (absV x / 16) (16 * (absV x / 16) + 8) (by omega) (by omega) (by omega) (by omega) rfl (by omega) (by omega) (by rw [hinv]; split <;> omega)
  · simp only [if_neg c1] at hinv
    by_cases c2 : absV x < 512
    · simp only [if_pos c2] at hinv
      exact done_ 1 (absV x / 16 - 16) ((16 * (absV x / 16 - 16) + 264) * 1) (by omega) (by omega) (by omega) (by omega) rfl (by omega) (by omega) (by rw [hinv]; split <;> omega)
    · simp only [if_neg c2] at hinv
      by_cases c3 : absV x < 1024
      · simp only [if_pos c3] at hinv
        exact done_ 2 (absV x / 32 - 16) ((16 * (absV x / 32 - 16) + 264) * 2) (by omega) (by omega) (by omega) (by omega) rfl (by omega) (by omega) (by rw [hinv]; split <;> omega)
      · simp only [if_neg c3] at hinv
        by_cases c4 : absV x < 2048
        · simp only [if_pos c4] at hinv
          exact done_ 3 (absV x / 64 - 16) ((16 * (absV x / 64 - 16) + 264) * 4) (by omega) (by omega) (by omega) (by omega) rfl (by omega) (by omega) (by rw [hinv]; split <;> omega)
        · simp only [if_neg c4] at hinv
          by_cases c5 : absV x < 4096
          · simp only [if_pos c5] at hinv
            exact done_ 4 (absV x / 128 - 16) ((16 * (absV x / 128 - 16) + 264) * 8) (by omega) (by omega) (by omega) (by omega) rfl (by omega) (by omega) (by rw [hinv]; split <;> omega)
          · simp only [if_neg c5] at hinv
            by_cases c6 : absV x < 8192
            · simp only [if_pos c6] at hinv
              exact done_ 5 (absV x / 256 - 16) ((16 * (absV x / 256 - 16) + 264) * 16) (by omega) (by omega) (by omega) (by omega) rfl (by omega) (by omega) (by rw [hinv]; split <;> omega)
            · simp only [if_neg c6] at hinv
              by_cases c7 : absV x < 16384
              · simp only [if_pos c7] at hinv
                exact done_ 6 (absV x / 512 - 16) ((16 * (absV x / 512 - 16) + 264) * 32) (by omega) (by omega) (by omega) (by omega) rfl (by omega) (by omega) (by rw [hinv]; split <;> omega)
              · simp only [if_neg c7] at hinv
                exact done_ 7 (absV x / 1024 - 16) ((16 * (absV x / 1024 - 16) + 264) * 64) (by omega) (by omega) (by omega) (by omega) rfl (by omega) (by omega) (by rw [hinv]; split <;> omega)
/-! The nearest level -/
theorem size_spec (x : Int) (h : -100000 ≤ x ∧ x ≤ 100000) : spec_l11Size.f x = some (absV x) := by
  unfold spec_l11Size.f absV
  have e : wrap64 (-x) = -x := w64 (by omega)
  rw [e]
  split <;> rfl
theorem size_impl (x : Int) (h : -100000 ≤ x ∧ x ≤ 100000) : impl_size.f x = some (absV x) := by
  unfold impl_size.f absV mx
  have e : wrap64 (-x) = -x := w64 (by omega)
  rw [e]
  congr 1
  split <;> split <;> omega
theorem near_loops (x : Int) (hx : -32767 ≤ x ∧ x ≤ 32767) (d : Nat) : ∀ (b i : Int), 0 ≤ b → b < 256 → 0 ≤ i → i ≤ 256 → 256 - i = d →
    ∃ r, Ev (fun k => spec_ToLaw.l0 k x b i) r ∧ Ev (fun k => impl_ToLaw.l0 k x b i) r ∧ (0 ≤ r ∧ r < 256) ∧ absV (fromC r - x) ≤ absV (fromC b - x) ∧ ∀ j, i ≤ j → j < 256 → absV (fromC r - x) ≤ absV (fromC j - x) := by
  induction d with
  | zero =>
    intro b i hb0 hb1 hi0 hi1 hd
    refine ⟨b, Ev.step (f := fun _ => some b) (fun k => ?_) (Ev.now _), Ev.step (f := fun _ => some b) (fun k => ?_) (Ev.now _), ⟨hb0, hb1⟩, Int.le_refl _, fun j h1 h2 => by omega⟩
    · simp only [spec_ToLaw.l0]; rw [if_neg (by omega)]
    · simp only [impl_ToLaw.l0]; rw [if_neg (by omega)]
  | succ d ih =>
    intro b i hb0 hb1 hi0 hi1 hd
    obtain ⟨p1, p2, p3, p4⟩ := from_at i hi0 (by omega)
    obtain ⟨q1, q2, q3, q4⟩ := from_at b hb0 hb1
    have ep : wrap64 (fromC i - x) = fromC i - x := w64 (by omega)
    have eq : wrap64 (fromC b - x) = fromC b - x := w64 (by omega)
    have ei : wrap64 (i + 1) = i + 1 := w64 (by omega)
    have ci : i < 256 := by omega
    have A := ih i (i + 1) (by omega) (by omega) (by omega) (by omega) (by omega)
    have B := ih b (i + 1) (by omega) (by omega) (by omega) (by omega) (by omega)
    have s1 : ∀ k, spec_ToLaw.l0 (k + 1) x b i = if absV (fromC i - x) < absV (fromC b - x) then spec_ToLaw.l0 k x i (i + 1) else if absV (fromC i - x) = absV (fromC b - x) then (if absV (fromC i) < absV (fromC b) then spec_ToLaw.l0 k x i (i + 1) else spec_ToLaw.l0 k x b (i + 1)) else spec_ToLaw.l0 k x b (i + 1) := by
      intro k
      simp only [spec_ToLaw.l0, if_pos ci, p2, q2, Option.bind_some, ep, eq, ei, size_spec (fromC i - x) (by omega), size_spec (fromC b - x) (by omega), size_spec (fromC i) (by omega), size_spec (fromC b) (by omega)]
    have s2 : ∀ k, impl_ToLaw.l0 (k + 1) x b i = if absV (fromC i - x) < absV (fromC b - x) then impl_ToLaw.l0 k x i (i + 1) else if absV (fromC i - x) = absV (fromC b - x) then (if absV (fromC i) < absV (fromC b) then impl_ToLaw.l0 k x i (i + 1) else impl_ToLaw.l0 k x b (i + 1)) else impl_ToLaw.l0 k x b (i + 1) := by
      intro k
      simp only [impl_ToLaw.l0, if_pos ci, p1, q1, Option.bind_some, ep, eq, ei, size_impl (fromC i - x) (by omega), size_impl (fromC b - x) (by omega), size_impl (fromC i) (by omega), size_impl (fromC b) (by omega)]
    have takeA : (absV (fromC i - x) ≤ absV (fromC b - x)) → (∀ k, spec_ToLaw.l0 (k + 1) x b i = spec_ToLaw.l0 k x i (i + 1)) → (∀ k, impl_ToLaw.l0 (k + 1) x b i = impl_ToLaw.l0 k x i (i + 1)) → ∃ r, Ev (fun k => spec_ToLaw.l0 k x b i) r ∧ Ev (fun k => impl_ToLaw.l0 k x b i) r ∧ (0 ≤ r ∧ r < 256) ∧ absV (fromC r - x) ≤ absV (fromC b - x) ∧ ∀ j, i ≤ j → j < 256 → absV (fromC r - x) ≤ absV (fromC j - x) := by
      intro hle t1 t2
      obtain ⟨r, e1, e2, hr, h1, h2⟩ := A
      refine ⟨r, Ev.step t1 e1, Ev.step t2 e2, hr, by omega, fun j hj1 hj2 => ?_⟩
      by_cases c : j = i
      · subst c; exact h1
      · exact h2 j (by omega) hj2
    have takeB : (absV (fromC b - x) ≤ absV (fromC i - x)) → (∀ k, spec_ToLaw.l0 (k + 1) x b i = spec_ToLaw.l0 k x b (i + 1)) → (∀ k, impl_ToLaw.l0 (k + 1) x b i = impl_ToLaw.l0 k x b (i + 1)) → ∃ r, Ev (fun k => spec_ToLaw.l0 k x b i) r ∧ Ev (fun k => impl_ToLaw.l0 k x b i) r ∧ (0 ≤ r ∧ r < 256) ∧ absV (fromC r - x) ≤ absV (fromC b - x) ∧ ∀ j, i ≤ j → j < 256 → absV (fromC r - x) ≤ absV (fromC j - x) := by
      intro hle t1 t2
      obtain ⟨r, e1, e2, hr, h1, h2⟩ := B
      refine ⟨r, Ev.step t1 e1, Ev.step t2 e2, hr, h1, fun j hj1 hj2 => ?_⟩
      by_cases c : j = i
      · subst c; omega
      · exact h2 j (by omega) hj2
    by_cases c1 : absV (fromC i - x) < absV (fromC b - x)
    · exact takeA (by omega) (fun k => by rw [s1, if_pos c1]) (fun k => by rw [s2, if_pos c1])
    · by_cases c2 : absV (fromC i - x) = absV (fromC b - x)
      · by_cases c3 : absV (fromC i) < absV (fromC b)
        · exact takeA (by omega) (fun k => by rw [s1, if_neg c1, if_pos c2, if_pos c3]) (fun k => by rw [s2, if_neg c1, if_pos c2, if_pos c3])
        · exact takeB (by omega) (fun k => by rw [s1, if_neg c1, if_pos c2, if_neg c3]) (fun k => by rw [s2, if_neg c1, if_pos c2, if_neg c3])
      · exact takeB (by omega) (fun k => by rw [s1, if_neg c1, if_neg c2]) (fun k => by rw [s2, if_neg c1, if_neg c2])
theorem to_near (x : Int) (hx : -32767 ≤ x ∧ x ≤ 32767) : ∃ r, Ev (fun k => spec_ToLaw.f k x) r ∧ Ev (fun k => impl_ToLaw.f k x) r ∧ (0 ≤ r ∧ r < 256) ∧ ∀ j, 0 ≤ j → j < 256 → absV (fromC r - x) ≤ absV (fromC j - x) := by
  obtain ⟨r, e1, e2, hr, h1, h2⟩ := near_loops x hx 255 0 1 (by omega) (by omega) (by omega) (by omega) (by omega)
  obtain ⟨q1, q2, q3, q4⟩ := from_at 0 (by omega) (by omega)
  refine ⟨r, ?_, ?_, hr, fun j hj0 hj1 => ?_⟩
  · simp only [spec_ToLaw.f, spec_l2Level.f, l1_eq, Option.bind_some, decide_eq_true hx, if_true]
    exact e1
  · simp only [impl_ToLaw.f, in_eq, Option.bind_some, decide_eq_true hx, if_true]
    refine Ev.step (fun k => ?_) e2
    have eq : wrap64 (fromC 0 - x) = fromC 0 - x := w64 (by omega)
    have ei : wrap64 (0 + 1) = 1 := w64 (by omega)
    simp only [impl_ToLaw.l0, show (0 : Int) < 256 by omega, if_true, q1, Option.bind_some, eq, ei, size_impl (fromC 0 - x) (by omega), size_impl (fromC 0) (by omega), Int.lt_irrefl, if_false]
  · by_cases c : j = 0
    · subst c; exact h1
    · exact h2 j (by omega) hj1


/-! The cursor over what is drawn: it never falls, whatever its numbers -/
theorem and_bound (x m : Int) (h0 : 0 ≤ m) (h1 : m ≤ 2000000000) : 0 ≤ Go.bits .and .i64 x m ∧ Go.bits .and .i64 x m ≤ m := by
  have e : (BitVec.ofInt 64 m).toNat = m.toNat := by
    rw [BitVec.toNat_ofInt]
    have : m % ((2 ^ 64 : Nat) : Int) = m := Int.emod_eq_of_lt h0 (by omega)
    rw [this]
  have hle : (BitVec.ofInt 64 x &&& BitVec.ofInt 64 m).toNat ≤ m.toNat := by
    rw [BitVec.toNat_and, e]
    exact Nat.and_le_right
  have hw : Go.bits .and .i64 x m = ((BitVec.ofInt 64 x &&& BitVec.ofInt 64 m).toNat : Int) := by
    show IntKind.i64.wrap (((BitVec.ofInt 64 x &&& BitVec.ofInt 64 m).toNat : Nat) : Int) = _
    rw [IntKind.wrap_i64]
    omega
  omega
theorem byte_ok (l : List Int) (s1 s2 : Int) (hl : (l.length : Int) ≤ 1048576) (h0 : 0 ≤ s1) : ∃ b t1 t2, spec_l1Byte.f l s1 s2 = some (b, t1, t2) ∧ 0 ≤ b ∧ b ≤ 255 ∧ 0 ≤ t1 := by
  unfold spec_l1Byte.f
  by_cases c : s1 < (l.length : Int)
  · rw [if_pos c, if_pos h0]
    refine ⟨_, _, _, rfl, (and_bound _ 255 (by omega) (by omega)).1, (and_bound _ 255 (by omega) (by omega)).2, ?_⟩
    rw [w64 (by omega)]
    omega
  · rw [if_neg c]
    exact ⟨_, _, _, rfl, (and_bound _ 255 (by omega) (by omega)).1, (and_bound _ 255 (by omega) (by omega)).2, h0⟩
theorem below_ok (l : List Int) (s1 s2 n : Int) (hl : (l.length : Int) ≤ 1048576) (h0 : 0 ≤ s1) : ∃ r t1 t2, spec_l1Below.f l s1 s2 n = some (r, t1, t2) ∧ 0 ≤ t1 ∧ (0 < n → 0 ≤ r ∧ r < n) ∧ (n ≤ 0 → r = 0) := by
  unfold spec_l1Below.f
  by_cases c : n ≤ 0
  · rw [if_pos c]
    exact ⟨_, _, _, rfl, h0, fun h => absurd h (by omega), fun _ => rfl⟩
  · rw [if_neg c]
    by_cases c2 : n ≤ 256
    · rw [if_pos c2]
      obtain ⟨b, t1, t2, e, b0, b1, b2⟩ := byte_ok l s1 s2 hl h0
      rw [e]
      simp only [Option.bind_some]
      rw [if_neg (by omega)]
      refine ⟨_, _, _, rfl, b2, fun _ => ?_, fun h => absurd h (by omega)⟩
      rw [Int.tmod_eq_emod_of_nonneg b0]
      exact ⟨Int.emod_nonneg _ (by omega), Int.emod_lt_of_pos _ (by omega)⟩
    · rw [if_neg c2]
      obtain ⟨b, t1, t2, e, b0, b1, b2⟩ := byte_ok l s1 s2 hl h0
      rw [e]
      simp only [Option.bind_some]
      obtain ⟨b', t1', t2', e', b0', b1', b2'⟩ := byte_ok l t1 t2 hl b2
      rw [e']
      simp only [Option.bind_some]
      obtain ⟨b'', t1'', t2'', e'', b0'', b1'', b2''⟩ := byte_ok l t1' t2' hl b2'
      rw [e'']
      simp only [Option.bind_some]
      obtain ⟨c', u1, u2, f, g0, g1, g2⟩ := byte_ok l t1'' t2'' hl b2''
      rw [f]
      simp only [Option.bind_some]
      rw [if_neg (by omega)]
      refine ⟨_, _, _, rfl, g2, fun _ => ?_, fun h => absurd h (by omega)⟩
      rw [Int.tmod_eq_emod_of_nonneg (by unfold wrap64; omega)]
      exact ⟨Int.emod_nonneg _ (by omega), Int.emod_lt_of_pos _ (by omega)⟩
theorem once_ok (l : List Int) (s1 s2 n : Int) (hl : (l.length : Int) ≤ 1048576) (h0 : 0 ≤ s1) : ∃ r t1 t2, spec_l1Once.f l s1 s2 n = some (r, t1, t2) ∧ 0 ≤ t1 := by
  unfold spec_l1Once.f
  obtain ⟨r, t1, t2, e, h, _⟩ := below_ok l s1 s2 n hl h0
  rw [e]
  exact ⟨_, _, _, rfl, h⟩
theorem new_ok (l : List Int) (hl : (l.length : Int) ≤ 1048576) : ∃ h, Ev (fun k => spec_l1New.f k l) (l, 0, h) := by
  have key : ∀ (d : Nat) (i h : Int), 0 ≤ i → i ≤ l.length → (l.length : Int) - i = d → ∃ h', Ev (fun k => spec_l1New.l0 k l h i) (l, 0, h') := by
    intro d
    induction d with
    | zero =>
      intro i h h0 h1 hd
      refine ⟨h, Ev.step (f := fun _ => some (l, 0, h)) (fun k => ?_) (Ev.now _)⟩
      simp only [spec_l1New.l0]
      rw [if_neg (by omega)]
    | succ d ih =>
      intro i h h0 h1 hd
      have ei : wrap64 (i + 1) = i + 1 := w64 (by omega)
      by_cases c : i < 4000
      · obtain ⟨h', hh⟩ := ih (i + 1) (Go.bits .and .i64 (wrap64 ((wrap64 ((wrap64 (h * 131)) + (wrap64 (rd l i)))) + 7)) 1073741823) (by omega) (by omega) (by omega)
        refine ⟨h', Ev.step (fun k => ?_) hh⟩
        simp only [spec_l1New.l0]
        rw [if_pos (by omega), if_pos c, if_pos h0, ei]
      · refine ⟨h, Ev.step (f := fun _ => some (l, 0, h)) (fun k => ?_) (Ev.now _)⟩
        simp only [spec_l1New.l0]
        rw [if_pos (by omega), if_neg c]
  exact key l.length 0 _ (by omega) (by omega) (by omega)


theorem pick_ok (l : List Int) (s1 s2 : Int) (p : List Int) (hl : (l.length : Int) ≤ 1048576) (h0 : 0 ≤ s1) (hp : 0 < p.length) : ∃ r t1 t2, spec_l1PickInt.f l s1 s2 p = some (r, t1, t2) ∧ 0 ≤ t1 ∧ r ∈ p := by
  unfold spec_l1PickInt.f
  obtain ⟨r, t1, t2, e, h, hr, _⟩ := below_ok l s1 s2 (p.length : Int) hl h0
  obtain ⟨r0, r1⟩ := hr (by omega)
  rw [e]
  simp only [Option.bind_some]
  rw [if_pos r0, if_pos r1]
  exact ⟨_, _, _, rfl, h, List.mem_of_getElem? (rd_at p r r0 r1)⟩


theorem big_eq (l : List Int) : laws_big.f l = some (decide ((l.length : Int) > 1048576)) := rfl
theorem at_ok (l : List Int) (i : Int) (hl : (l.length : Int) ≤ 1048576) (hb : ∀ x ∈ l, 0 ≤ x ∧ x ≤ 255) (h0 : 0 ≤ i) (h1 : i ≤ 100000000) : ∃ b, laws_at.f l i = some b ∧ 0 ≤ b ∧ b ≤ 255 := by
  unfold laws_at.f
  by_cases c : i < (l.length : Int)
  · rw [if_pos c, if_pos h0]
    have hm := hb _ (List.mem_of_getElem? (rd_at l i h0 c))
    rw [w64 (by omega)]
    exact ⟨_, rfl, hm⟩
  · rw [if_neg c]
    refine ⟨_, rfl, ?_⟩
    rw [w64 (x := i * 7) (by omega), w64 (by omega), Int.tmod_eq_emod_of_nonneg (by omega)]
    omega
theorem u8_range {x : Int} (h : (Lit.int .u8 x).wf = true) : 0 ≤ x ∧ x ≤ 255 := by
  simp [Lit.wf, IntKind.min, IntKind.max, IntKind.signed, IntKind.bits] at h
  omega

theorem draw_ok (l : List Int) (hl : (l.length : Int) ≤ 1048576) : ∃ x, Ev (fun k => spec_DrawToLaw.f k l) x ∧ -100000 ≤ x ∧ x ≤ 100000 := by
  obtain ⟨h, hN⟩ := new_ok l hl
  obtain ⟨b, t1, t2, e1, p1⟩ := once_ok l 0 h 6 hl (by omega)
  have key : ∃ x, (spec_l1Once.f l 0 h 6).bind (fun bt149 => if bt149.1 = true then (spec_l1PickInt.f l bt149.2.1 bt149.2.2 [0, 16, (-16), 256, 32767, (-32767), 32768, (-32768), 8]).bind fun bt155 => some bt155.1 else (spec_l1Below.f l bt149.2.1 bt149.2.2 65535).bind fun bt158 => (spec_l1Below.f l bt158.2.1 bt158.2.2 12).bind fun bt161 => if 0 ≤ (IntKind.u64.wrap (bt161.1)) then some (shr .i64 (wrap64 (bt158.1 - 32767)) (IntKind.u64.wrap (bt161.1))) else none) = some x ∧ -100000 ≤ x ∧ x ≤ 100000 := by
    rw [e1]
    simp only [Option.bind_some]
    by_cases c : b = true
    · rw [if_pos c]
      obtain ⟨r, u1, u2, e2, _, hm⟩ := pick_ok l t1 t2 [0, 16, (-16), 256, 32767, (-32767), 32768, (-32768), 8] hl p1 (by simp)
      rw [e2]
      refine ⟨r, rfl, ?_⟩
      simp only [List.mem_cons, List.not_mem_nil, or_false] at hm
      omega
    · rw [if_neg c]
      obtain ⟨r, u1, u2, e2, p2, hr, _⟩ := below_ok l t1 t2 65535 hl p1
      rw [e2]
      simp only [Option.bind_some]
      obtain ⟨q, v1, v2, e3, _, hq, _⟩ := below_ok l u1 u2 12 hl p2
      rw [e3]
      simp only [Option.bind_some]
      obtain ⟨r0, r1⟩ := hr (by omega)
      obtain ⟨q0, q1⟩ := hq (by omega)
      have ew : IntKind.u64.wrap q = q := by simp [IntKind.wrap, IntKind.bits, IntKind.signed]; omega
      rw [ew, if_pos q0, w64 (by omega)]
      refine ⟨_, rfl, ?_⟩
      unfold shr
      generalize hp : (2 : Int) ^ min q.toNat IntKind.i64.bits = p
      have hp1 : 1 ≤ p := by
        rw [← hp]
        have h2 := Nat.two_pow_pos (min q.toNat IntKind.i64.bits)
        generalize min q.toNat IntKind.i64.bits = m at h2 ⊢
        have h3 : (2 : Int) ^ m = ((2 ^ m : Nat) : Int) := by simp
        rw [h3]
        omega
      have hlo : -32767 ≤ (r - 32767) / p := by
        refine (Int.le_ediv_iff_mul_le (by omega)).2 ?_
        have : -32767 * p ≤ -32767 := by omega
        omega
      have hhi : (r - 32767) / p ≤ 32767 := by
        by_cases c2 : r - 32767 < 0
        · have := Int.ediv_neg_of_neg_of_pos c2 (by omega : 0 < p)
          omega
        · exact Int.le_trans (Int.ediv_le_self _ (by omega)) (by omega)
      omega
  obtain ⟨x, hx, hb⟩ := key
  refine ⟨x, ?_, hb⟩
  refine Ev.bind (g := fun k => spec_l1New.f k l) hN ?_
  exact ⟨0, fun _ _ => hx⟩
theorem abs_eq (x : Int) (h : -1000000 ≤ x ∧ x ≤ 1000000) : laws_abs.f x = some (absV x) := by
  unfold laws_abs.f absV
  rw [w64 (by omega)]
  split <;> rfl
theorem FnLaw : SFnLaw.Pure := by
  intro l hw
  apply Ev.rounds
  simp only [laws_FnLaw.f, big_eq, Option.bind_some]
  by_cases h : (l.length : Int) > 1048576
  · simp only [decide_eq_true h, if_true]
    exact Ev.now _
  · have hl : (l.length : Int) ≤ 1048576 := by omega
    obtain ⟨b, hb, b0, b1⟩ := at_ok l 0 hl (fun x hx => u8_range (hw.1 x hx)) (by omega) (by omega)
    obtain ⟨x, hD, x0, x1⟩ := draw_ok l hl
    obtain ⟨f1, _, f3, f4⟩ := from_at b b0 (by omega)
    have hf : -32767 ≤ fromC b ∧ fromC b ≤ 32767 := by
      have h := from_in b b0 b1
      exact h
    obtain ⟨r, _, hr1, hr2, hr3⟩ := to_near (fromC b) hf
    have hrb : r = b := by
      have h1 := hr3 b b0 (by omega)
      have h2 : fromC r = fromC b := by
        unfold absV at h1
        split at h1 <;> split at h1 <;> omega
      exact from_inj r b hr2 ⟨b0, by omega⟩ h2
    subst hrb
    have e255 : impl_FromLaw.f 255 = some (-32256) := by decide +kernel
    have e0 : impl_FromLaw.f 0 = some 8 := by decide +kernel
    simp only [decide_eq_false h, Bool.false_eq_true, if_false, hb, Option.bind_some]
    refine Ev.bind hD ?_
    simp only [f1, Option.bind_some]
    refine Ev.bind hr1 ?_
    simp only [if_true, e255, e0, Option.bind_some, bne_self_eq_false]
    refine Ev.step (fun k => by simp only [laws_FnLaw.j0, Bool.false_eq_true, if_false, abs_eq x (by omega), Option.bind_some]; rfl) ?_
    by_cases c : absV x > 32767
    · simp only [if_pos c]
      have hn : ¬ (-32767 ≤ x ∧ x ≤ 32767) := by unfold absV at c; split at c <;> omega
      simp only [impl_ToLaw.f, in_eq, Option.bind_some, decide_eq_false hn, Bool.false_eq_true, if_false]
      exact Ev.now _
    · simp only [if_neg c]
      have hn : -32767 ≤ x ∧ x ≤ 32767 := by unfold absV at c; split at c <;> omega
      obtain ⟨q, s1, s2, s3, s4⟩ := to_near x hn
      obtain ⟨g1, _, g3, g4⟩ := from_at q s3.1 s3.2
      refine Ev.bind s2 ?_
      simp only [g1, Option.bind_some]
      refine Ev.bind s2 ?_
      refine Ev.bind s1 ?_
      simp only [if_true, w64 (x := fromC q - x) (by omega), abs_eq (fromC q - x) (by omega), Option.bind_some]
      have hi := inv_near x hn
      have h1 := s4 (invC x) hi.1.1 hi.1.2
      have ha : 0 ≤ absV x := by unfold absV; split <;> omega
      have ew : wrap64 (Int.tdiv (absV x) 16) = absV x / 16 := by rw [Int.tdiv_eq_ediv_of_nonneg ha]; exact w64 (by omega)
      have ew2 : wrap64 (absV x / 16 + 8) = absV x / 16 + 8 := w64 (by omega)
      have hfin : absV (fromC q - x) ≤ absV x / 16 + 8 := by omega
      simp only [ew, ew2, decide_eq_true hfin]
      exact Ev.now _

end Go.Proofs.Yteaelhdcmnhcbaa.Pure
