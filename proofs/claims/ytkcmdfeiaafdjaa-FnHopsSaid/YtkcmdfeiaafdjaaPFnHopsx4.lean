-- laid by a program of this session (wip/lay/lay.py); Lean checks it
import Derived.Test.YtkcmdfeiaafdjaaPFnHopsx0
namespace Go.Proofs.Ytkcmdfeiaafdjaa.PFnHops
-- squashed
open Go.RowKit Go.Proofs.YtkcmdfeiaafdjaaW.PrintWords Go.Proofs.YtkcmdfeiaafdjaaW.PrintLast Go.Proofs.YtkcmdfeiaafdjaaW.PrintMore
attribute [local go_sem] max2_int min2_int max_two min_two max_three min_three max_four min_four   -- for this text's walks alone
set_option linter.unusedVariables false
set_option linter.unusedSimpArgs false

/-! ### impl_in: function 42 -/
def impl_in.f (a0 : Int) (a1 : Int) (a2 : Int) : Option (Bool) := if a0 ≥ a1 then (some (decide (a0 ≤ a2))) else (some false)
set_option maxHeartbeats 8000000 in
set_option maxRecDepth 100000 in
theorem impl_in.calls (a0 : Int) (a1 : Int) (a2 : Int) (r : Bool) (w : World) (h : impl_in.f a0 a1 a2 = some r) :
  Calls Try.prog 42 #[.int .i64 a0, .int .i64 a1, .int .i64 a2] w fun e w' => e = .returned (.bool r) ∧ Drawn0 w w' := by
 have H : (if a0 ≥ a1 then (some (decide (a0 ≤ a2))) else (some false)) = some r := h; clear h
 by_cases c4 : a0 ≥ a1
 case pos =>
  rw [if_pos c4] at H; have c4b0 : decide (a1 ≤ a0) = true := decide_eq_true c4; clear c4; obtain rfl := Option.some.inj H
  go_enter Try.func42, Try.ntmps42
  go_wp2
  go_ret
  exact ⟨by first | rfl | (simp; done) | (simp [*]; done), by repeat (first | exact Drawn0.refl _ | apply Drawn0.step)⟩
 rw [if_neg c4] at H; have c4b0 : decide (a1 ≤ a0) = false := decide_eq_false c4; clear c4; obtain rfl := Option.some.inj H
 go_enter Try.func42, Try.ntmps42
 go_wp2
 go_ret
 exact ⟨by first | rfl | (simp; done) | (simp [*]; done), by repeat (first | exact Drawn0.refl _ | apply Drawn0.step)⟩

/-! ### runtime_boundsError_RuntimeError: function 86 -/
instance runtime_boundsError_RuntimeError.dec : DecidableEq S45 := fun a b => if h : a.f0 = b.f0 ∧ a.f1 = b.f1 then .isTrue (by cases a; cases b; simp at h; simp [h]) else .isFalse (fun e => h (by subst e; exact ⟨rfl, rfl⟩))
def enc45 (x : S45) : Value := .agg #[.int .i64 x.f0, .int .i64 x.f1]
theorem kk45 : Sets.KeyKind Try.prog 45 enc45 := by
 have hu45 := Try.underlying45; have hu3 := Try.underlying3
 refine Sets.KeyKind.asked hu45 (fun x y => rfl) (fun e x w => ?_) (fun x y w => ?_) (fun x => ?_)
 ·show (Instr.checkKey e (9998 + 2) 45 (.agg #[.int .i64 x.f0, .int .i64 x.f1])).run Try.prog w = .ok () w
  rw [Instr.checkKey, Sem.run_bind, run_underlying hu45]
  simp only [Result.andThen_ok]
  have h3 : ∀ z : Int, (Instr.checkKey e (9998 + 1) 3 (.int .i64 z)).run Try.prog w = .ok () w := by
   intro z
   rw [Instr.checkKey, Sem.run_bind, run_underlying hu3]
   rfl
  have p0 : (part 3 #[.int .i64 x.f0, .int .i64 x.f1] 0).run Try.prog w = .ok (.int .i64 x.f0) w := by kernel_rfl
  have p1 : (part 3 #[.int .i64 x.f0, .int .i64 x.f1] 1).run Try.prog w = .ok (.int .i64 x.f1) w := by kernel_rfl
  have h4 : ∀ z : Int, (Instr.checkKey e 9999 3 (.int .i64 z)).run Try.prog w = .ok () w := h3
  simp [p0, p1, h4, Array.forIn_toList]
 ·have hs : Try.prog.stoodInHeld 45 = false := by kernel_rfl
  have h3 : ∀ (d : Nat) (p q : Int), (Op.equalIn (d + 1) 3 (.int .i64 p) (.int .i64 q)).run Try.prog w = .ok (p == q) w := fun d p q => run_equalIn_int w d 3 .i64 .i64 p q hu3
  unfold enc45
  show (Op.equalIn (9999 + 1) 45 _ _).run Try.prog w = _
  go_simp
  obtain ⟨a, b⟩ := x; obtain ⟨c, d⟩ := y
  by_cases h1 : a = c <;> by_cases h2 : b = d <;> simp [h1, h2]
 ·show Instr.sameBits (9999 + 1) (.agg #[.int .i64 x.f0, .int .i64 x.f1]) (.agg #[.int .i64 x.f0, .int .i64 x.f1]) = true
  simp [Instr.sameBits]
def runtime_boundsError_RuntimeError.f (l0 : List S45) (a1_0 a1_1 : Int) : Option Bool := some (decide ((⟨a1_0, a1_1⟩ : S45) ∈ l0))
-- Sets. Mk.

end Go.Proofs.Ytkcmdfeiaafdjaa.PFnHops
