-- PRINTED BY print.sh 35421559b90ae4d0a3588c463048766b98c2df88dd9212a6774a882060cdf62d: not written by this session
import Derived.Test.YteaelhdcmnhcbaaPFnExactFromLawx0
namespace Go.Proofs.Yteaelhdcmnhcbaa.PFnExactFromLaw
open Go.RowKit Go.Proofs.YteaelhdcmnhcbaaW.PrintWords Go.Proofs.YteaelhdcmnhcbaaW.PrintLast Go.Proofs.YteaelhdcmnhcbaaW.PrintMore
attribute [local go_sem] max2_int min2_int max_two min_two max_three min_three max_four min_four   -- for this text's walks alone
set_option linter.unusedVariables false
set_option linter.unusedSimpArgs false

/-! ### spec_l1In: function 45 -/
def spec_l1In.f (a0 : Int) (a1 : Int) (a2 : Int) : Option (Bool) := if a0 ≥ a1 then (some (decide (a0 ≤ a2))) else (some false)
set_option maxHeartbeats 8000000 in
set_option maxRecDepth 100000 in
theorem spec_l1In.calls (a0 : Int) (a1 : Int) (a2 : Int) (r : Bool) (w : World) (h : spec_l1In.f a0 a1 a2 = some r) :
    Calls Try.prog 45 #[.int .i64 a0, .int .i64 a1, .int .i64 a2] w fun e w' => e = .returned (.bool r) ∧ Drawn0 w w' := by
  have H : (if a0 ≥ a1 then (some (decide (a0 ≤ a2))) else (some false)) = some r := h
  clear h
  by_cases c4 : a0 ≥ a1
  · rw [if_pos c4] at H
    have c4b0 : decide (a1 ≤ a0) = true := decide_eq_true c4
    clear c4
    obtain rfl := Option.some.inj H
    go_enter Try.func45, Try.ntmps45
    go_wp2
    go_ret
    exact ⟨by first | rfl | (simp; done) | (simp [*]; done), by repeat (first | exact Drawn0.refl _ | apply Drawn0.step)⟩
  · rw [if_neg c4] at H
    have c4b0 : decide (a1 ≤ a0) = false := decide_eq_false c4
    clear c4
    obtain rfl := Option.some.inj H
    go_enter Try.func45, Try.ntmps45
    go_wp2
    go_ret
    exact ⟨by first | rfl | (simp; done) | (simp [*]; done), by repeat (first | exact Drawn0.refl _ | apply Drawn0.step)⟩

/-! ### spec_FromLaw: function 16 -/
def spec_FromLaw.f (a0 : Int) : Option (Int) := (spec_l1In.f a0 0 255).bind fun t101 => (if t101 = true then (if (wrap64 (Int.tdiv (Int.tmod a0 128) 16)) > 0 then (if 0 ≤ (IntKind.u64.wrap (wrap64 ((wrap64 (Int.tdiv (Int.tmod a0 128) 16)) - 1))) then (if a0 ≥ 128 then (some (wrap64 (-(shl .i64 (wrap64 ((wrap64 (16 * (Int.tmod a0 16))) + 264)) (IntKind.u64.wrap (wrap64 ((wrap64 (Int.tdiv (Int.tmod a0 128) 16)) - 1))))))) else (some (shl .i64 (wrap64 ((wrap64 (16 * (Int.tmod a0 16))) + 264)) (IntKind.u64.wrap (wrap64 ((wrap64 (Int.tdiv (Int.tmod a0 128) 16)) - 1)))))) else (none)) else (if a0 ≥ 128 then (some (wrap64 (-(wrap64 ((wrap64 (16 * (Int.tmod a0 16))) + 8))))) else (some (wrap64 ((wrap64 (16 * (Int.tmod a0 16))) + 8))))) else (some 0))
set_option maxHeartbeats 8000000 in
set_option maxRecDepth 100000 in
theorem spec_FromLaw.calls (a0 : Int) (r : Int) (w : World) (h : spec_FromLaw.f a0 = some r) :
    Calls Try.prog 16 #[.int .i64 a0] w fun e w' => e = .returned (.int .i64 r) ∧ Drawn0 w w' := by
  have H : ((spec_l1In.f a0 0 255).bind fun t101 => (if t101 = true then (if (wrap64 (Int.tdiv (Int.tmod a0 128) 16)) > 0 then (if 0 ≤ (IntKind.u64.wrap (wrap64 ((wrap64 (Int.tdiv (Int.tmod a0 128) 16)) - 1))) then (if a0 ≥ 128 then (some (wrap64 (-(shl .i64 (wrap64 ((wrap64 (16 * (Int.tmod a0 16))) + 264)) (IntKind.u64.wrap (wrap64 ((wrap64 (Int.tdiv (Int.tmod a0 128) 16)) - 1))))))) else (some (shl .i64 (wrap64 ((wrap64 (16 * (Int.tmod a0 16))) + 264)) (IntKind.u64.wrap (wrap64 ((wrap64 (Int.tdiv (Int.tmod a0 128) 16)) - 1)))))) else (none)) else (if a0 ≥ 128 then (some (wrap64 (-(wrap64 ((wrap64 (16 * (Int.tmod a0 16))) + 8))))) else (some (wrap64 ((wrap64 (16 * (Int.tmod a0 16))) + 8))))) else (some 0))) = some r := h
  clear h
  replace H := Option.bind_eq_some_iff.mp H
  obtain ⟨t101, A20, H⟩ := H
  replace H : (if t101 = true then (if (wrap64 (Int.tdiv (Int.tmod a0 128) 16)) > 0 then (if 0 ≤ (IntKind.u64.wrap (wrap64 ((wrap64 (Int.tdiv (Int.tmod a0 128) 16)) - 1))) then (if a0 ≥ 128 then (some (wrap64 (-(shl .i64 (wrap64 ((wrap64 (16 * (Int.tmod a0 16))) + 264)) (IntKind.u64.wrap (wrap64 ((wrap64 (Int.tdiv (Int.tmod a0 128) 16)) - 1))))))) else (some (shl .i64 (wrap64 ((wrap64 (16 * (Int.tmod a0 16))) + 264)) (IntKind.u64.wrap (wrap64 ((wrap64 (Int.tdiv (Int.tmod a0 128) 16)) - 1)))))) else (none)) else (if a0 ≥ 128 then (some (wrap64 (-(wrap64 ((wrap64 (16 * (Int.tmod a0 16))) + 8))))) else (some (wrap64 ((wrap64 (16 * (Int.tmod a0 16))) + 8))))) else (some 0)) = some r := H
  have A2 := Aside0.mk A20
  clear A20
  by_cases c3 : t101 = true
  · subst c3
    have H1 : (if (wrap64 (Int.tdiv (Int.tmod a0 128) 16)) > 0 then (if 0 ≤ (IntKind.u64.wrap (wrap64 ((wrap64 (Int.tdiv (Int.tmod a0 128) 16)) - 1))) then (if a0 ≥ 128 then (some (wrap64 (-(shl .i64 (wrap64 ((wrap64 (16 * (Int.tmod a0 16))) + 264)) (IntKind.u64.wrap (wrap64 ((wrap64 (Int.tdiv (Int.tmod a0 128) 16)) - 1))))))) else (some (shl .i64 (wrap64 ((wrap64 (16 * (Int.tmod a0 16))) + 264)) (IntKind.u64.wrap (wrap64 ((wrap64 (Int.tdiv (Int.tmod a0 128) 16)) - 1)))))) else (none)) else (if a0 ≥ 128 then (some (wrap64 (-(wrap64 ((wrap64 (16 * (Int.tmod a0 16))) + 8))))) else (some (wrap64 ((wrap64 (16 * (Int.tmod a0 16))) + 8))))) = some r := by rw [if_pos rfl] at H; exact H
    clear H
    have H := H1
    clear H1
    by_cases c4 : (wrap64 (Int.tdiv (Int.tmod a0 128) 16)) > 0
    · rw [if_pos c4] at H
      have c4b0 : decide (0 < (wrap64 (Int.tdiv (Int.tmod a0 128) 16))) = true := decide_eq_true c4
      clear c4
      obtain ⟨ji5, hji5⟩ : ∃ j_ : Int, (IntKind.u64.wrap (wrap64 ((wrap64 (Int.tdiv (Int.tmod a0 128) 16)) - 1))) = j_ := ⟨_, rfl⟩
      replace H : (if 0 ≤ (ji5) then (if a0 ≥ 128 then (some (wrap64 (-(shl .i64 (wrap64 ((wrap64 (16 * (Int.tmod a0 16))) + 264)) (ji5))))) else (some (shl .i64 (wrap64 ((wrap64 (16 * (Int.tmod a0 16))) + 264)) (ji5)))) else (none)) = some r := by first | (rw [hji5] at H; exact H) | (simp only [hji5] at H ⊢; exact H)
      (try rw [hji5] at A2)
      by_cases c6 : 0 ≤ (ji5)
      · rw [if_pos c6] at H
        have c6b0 := eq_true c6
        have c6b1 : decide (0 ≤ (ji5)) = true := decide_eq_true c6
        clear c6
        obtain ⟨ji7, hji7⟩ : ∃ j_ : Int, (shl .i64 (wrap64 ((wrap64 (16 * (Int.tmod a0 16))) + 264)) (ji5)) = j_ := ⟨_, rfl⟩
        replace H : (if a0 ≥ 128 then (some (wrap64 (-(ji7)))) else (some ji7)) = some r := by first | (rw [hji7] at H; exact H) | (simp only [hji7] at H ⊢; exact H)
        (try rw [hji7] at A2)
        have hji7_ : (IntKind.i64.wrap ((wrap64 ((wrap64 (16 * (Int.tmod a0 16))) + 264)) * 2 ^ min (ji5).toNat 64)) = ji7 := hji7
        have hji7z : (ji5) ≤ 64 → (IntKind.i64.wrap ((wrap64 ((wrap64 (16 * (Int.tmod a0 16))) + 264)) * 2 ^ (ji5).toNat)) = ji7 := shl_small hji7
        have hji7y : (wrap64 ((wrap64 ((wrap64 (16 * (Int.tmod a0 16))) + 264)) * 2 ^ min (ji5).toNat 64)) = ji7 := (i64_w _).symm.trans hji7_
        have hji7x : (ji5) ≤ 64 → (wrap64 ((wrap64 ((wrap64 (16 * (Int.tmod a0 16))) + 264)) * 2 ^ (ji5).toNat)) = ji7 := fun h_ => (i64_w _).symm.trans (hji7z h_)
        by_cases c8 : a0 ≥ 128
        · rw [if_pos c8] at H
          have c8b0 : decide (128 ≤ a0) = true := decide_eq_true c8
          clear c8
          obtain rfl := Option.some.inj H
          go_enter Try.func16, Try.ntmps16
          go_wp2_with (first | ((with_reducible refine gate_callee (f := 45) rfl ?_); refine goesL_ (some 7) rfl rfl Try.func45 (by kernel_rfl) rfl #[.int .i64 a0, .int .i64 0, .int .i64 255] rfl (by (try simp only [List.map_toArray, List.map_cons, List.map_nil]); first | done | rfl | (simp only [List.length_drop, List.length_take]; rfl)) ?_; (with_reducible refine (spec_l1In.calls a0 0 255 true _ A2.out).mono ?_); rintro e w' ⟨rfl, ⟨nd, rfl⟩⟩; refine ⟨_, rfl, ?_⟩))
          go_ret
          exact ⟨by first | rfl | (simp; done) | (simp only [← hji5, ← hji7] <;> (first | rfl | simp)) | (simp [*]; done), by repeat (first | exact Drawn0.refl _ | apply Drawn0.step)⟩
        · rw [if_neg c8] at H
          have c8b0 : decide (128 ≤ a0) = false := decide_eq_false c8
          clear c8
          obtain rfl := Option.some.inj H
          go_enter Try.func16, Try.ntmps16
          go_wp2_with (first | ((with_reducible refine gate_callee (f := 45) rfl ?_); refine goesL_ (some 7) rfl rfl Try.func45 (by kernel_rfl) rfl #[.int .i64 a0, .int .i64 0, .int .i64 255] rfl (by (try simp only [List.map_toArray, List.map_cons, List.map_nil]); first | done | rfl | (simp only [List.length_drop, List.length_take]; rfl)) ?_; (with_reducible refine (spec_l1In.calls a0 0 255 true _ A2.out).mono ?_); rintro e w' ⟨rfl, ⟨nd, rfl⟩⟩; refine ⟨_, rfl, ?_⟩))
          go_ret
          exact ⟨by first | rfl | (simp; done) | (simp only [← hji5, ← hji7] <;> (first | rfl | simp)) | (simp [*]; done), by repeat (first | exact Drawn0.refl _ | apply Drawn0.step)⟩
      · rw [if_neg c6] at H
        exact absurd H (by simp)
    · rw [if_neg c4] at H
      have c4b0 : decide (0 < (wrap64 (Int.tdiv (Int.tmod a0 128) 16))) = false := decide_eq_false c4
      clear c4
      by_cases c9 : a0 ≥ 128
      · rw [if_pos c9] at H
        have c9b0 : decide (128 ≤ a0) = true := decide_eq_true c9
        clear c9
        obtain rfl := Option.some.inj H
        go_enter Try.func16, Try.ntmps16
        go_wp2_with (first | ((with_reducible refine gate_callee (f := 45) rfl ?_); refine goesL_ (some 7) rfl rfl Try.func45 (by kernel_rfl) rfl #[.int .i64 a0, .int .i64 0, .int .i64 255] rfl (by (try simp only [List.map_toArray, List.map_cons, List.map_nil]); first | done | rfl | (simp only [List.length_drop, List.length_take]; rfl)) ?_; (with_reducible refine (spec_l1In.calls a0 0 255 true _ A2.out).mono ?_); rintro e w' ⟨rfl, ⟨nd, rfl⟩⟩; refine ⟨_, rfl, ?_⟩))
        go_ret
        exact ⟨by first | rfl | (simp; done) | (simp [*]; done), by repeat (first | exact Drawn0.refl _ | apply Drawn0.step)⟩
      · rw [if_neg c9] at H
        have c9b0 : decide (128 ≤ a0) = false := decide_eq_false c9
        clear c9
        obtain rfl := Option.some.inj H
        go_enter Try.func16, Try.ntmps16
        go_wp2_with (first | ((with_reducible refine gate_callee (f := 45) rfl ?_); refine goesL_ (some 7) rfl rfl Try.func45 (by kernel_rfl) rfl #[.int .i64 a0, .int .i64 0, .int .i64 255] rfl (by (try simp only [List.map_toArray, List.map_cons, List.map_nil]); first | done | rfl | (simp only [List.length_drop, List.length_take]; rfl)) ?_; (with_reducible refine (spec_l1In.calls a0 0 255 true _ A2.out).mono ?_); rintro e w' ⟨rfl, ⟨nd, rfl⟩⟩; refine ⟨_, rfl, ?_⟩))
        go_ret
        exact ⟨by first | rfl | (simp; done) | (simp [*]; done), by repeat (first | exact Drawn0.refl _ | apply Drawn0.step)⟩
  · replace c3 := Bool.eq_false_iff.mpr c3
    subst c3
    have H1 : (some 0) = some r := by rw [if_neg (show ¬ (false = true) by decide)] at H; exact H
    clear H
    have H := H1
    clear H1
    obtain rfl := Option.some.inj H
    go_enter Try.func16, Try.ntmps16
    go_wp2_with (first | ((with_reducible refine gate_callee (f := 45) rfl ?_); refine goesL_ (some 7) rfl rfl Try.func45 (by kernel_rfl) rfl #[.int .i64 a0, .int .i64 0, .int .i64 255] rfl (by (try simp only [List.map_toArray, List.map_cons, List.map_nil]); first | done | rfl | (simp only [List.length_drop, List.length_take]; rfl)) ?_; (with_reducible refine (spec_l1In.calls a0 0 255 false _ A2.out).mono ?_); rintro e w' ⟨rfl, ⟨nd, rfl⟩⟩; refine ⟨_, rfl, ?_⟩))
    go_ret
    exact ⟨by first | rfl | (simp; done) | (simp [*]; done), by repeat (first | exact Drawn0.refl _ | apply Drawn0.step)⟩

/-! ### impl_in: function 46 -/
def impl_in.f (a0 : Int) (a1 : Int) (a2 : Int) : Option (Bool) := if a0 ≥ a1 then (some (decide (a0 ≤ a2))) else (some false)
set_option maxHeartbeats 8000000 in
set_option maxRecDepth 100000 in
theorem impl_in.calls (a0 : Int) (a1 : Int) (a2 : Int) (r : Bool) (w : World) (h : impl_in.f a0 a1 a2 = some r) :
    Calls Try.prog 46 #[.int .i64 a0, .int .i64 a1, .int .i64 a2] w fun e w' => e = .returned (.bool r) ∧ Drawn0 w w' := by
  have H : (if a0 ≥ a1 then (some (decide (a0 ≤ a2))) else (some false)) = some r := h
  clear h
  by_cases c4 : a0 ≥ a1
  · rw [if_pos c4] at H
    have c4b0 : decide (a1 ≤ a0) = true := decide_eq_true c4
    clear c4
    obtain rfl := Option.some.inj H
    go_enter Try.func46, Try.ntmps46
    go_wp2
    go_ret
    exact ⟨by first | rfl | (simp; done) | (simp [*]; done), by repeat (first | exact Drawn0.refl _ | apply Drawn0.step)⟩
  · rw [if_neg c4] at H
    have c4b0 : decide (a1 ≤ a0) = false := decide_eq_false c4
    clear c4
    obtain rfl := Option.some.inj H
    go_enter Try.func46, Try.ntmps46
    go_wp2
    go_ret
    exact ⟨by first | rfl | (simp; done) | (simp [*]; done), by repeat (first | exact Drawn0.refl _ | apply Drawn0.step)⟩

/-! ### impl_FromLaw: function 17 -/
def impl_FromLaw.f (a0 : Int) : Option (Int) := (impl_in.f a0 0 255).bind fun t102 => (if t102 = true then (if (Go.bits .and .i64 (a0 / 16) 7) > 0 then (if 0 ≤ (wrap64 ((Go.bits .and .i64 (a0 / 16) 7) - 1)) then (if a0 ≥ 128 then (some (wrap64 (-(shl .i64 (wrap64 ((wrap64 (16 * (Go.bits .and .i64 a0 15))) + 264)) (wrap64 ((Go.bits .and .i64 (a0 / 16) 7) - 1)))))) else (some (shl .i64 (wrap64 ((wrap64 (16 * (Go.bits .and .i64 a0 15))) + 264)) (wrap64 ((Go.bits .and .i64 (a0 / 16) 7) - 1))))) else (none)) else (if a0 ≥ 128 then (some (wrap64 (-(wrap64 ((wrap64 (16 * (Go.bits .and .i64 a0 15))) + 8))))) else (some (wrap64 ((wrap64 (16 * (Go.bits .and .i64 a0 15))) + 8))))) else (some 0))
set_option maxHeartbeats 8000000 in
set_option maxRecDepth 100000 in
theorem impl_FromLaw.calls (a0 : Int) (r : Int) (w : World) (h : impl_FromLaw.f a0 = some r) :
    Calls Try.prog 17 #[.int .i64 a0] w fun e w' => e = .returned (.int .i64 r) ∧ Drawn0 w w' := by
  have H : ((impl_in.f a0 0 255).bind fun t102 => (if t102 = true then (if (Go.bits .and .i64 (a0 / 16) 7) > 0 then (if 0 ≤ (wrap64 ((Go.bits .and .i64 (a0 / 16) 7) - 1)) then (if a0 ≥ 128 then (some (wrap64 (-(shl .i64 (wrap64 ((wrap64 (16 * (Go.bits .and .i64 a0 15))) + 264)) (wrap64 ((Go.bits .and .i64 (a0 / 16) 7) - 1)))))) else (some (shl .i64 (wrap64 ((wrap64 (16 * (Go.bits .and .i64 a0 15))) + 264)) (wrap64 ((Go.bits .and .i64 (a0 / 16) 7) - 1))))) else (none)) else (if a0 ≥ 128 then (some (wrap64 (-(wrap64 ((wrap64 (16 * (Go.bits .and .i64 a0 15))) + 8))))) else (some (wrap64 ((wrap64 (16 * (Go.bits .and .i64 a0 15))) + 8))))) else (some 0))) = some r := h
  clear h
  replace H := Option.bind_eq_some_iff.mp H
  obtain ⟨t102, A20, H⟩ := H
  replace H : (if t102 = true then (if (Go.bits .and .i64 (a0 / 16) 7) > 0 then (if 0 ≤ (wrap64 ((Go.bits .and .i64 (a0 / 16) 7) - 1)) then (if a0 ≥ 128 then (some (wrap64 (-(shl .i64 (wrap64 ((wrap64 (16 * (Go.bits .and .i64 a0 15))) + 264)) (wrap64 ((Go.bits .and .i64 (a0 / 16) 7) - 1)))))) else (some (shl .i64 (wrap64 ((wrap64 (16 * (Go.bits .and .i64 a0 15))) + 264)) (wrap64 ((Go.bits .and .i64 (a0 / 16) 7) - 1))))) else (none)) else (if a0 ≥ 128 then (some (wrap64 (-(wrap64 ((wrap64 (16 * (Go.bits .and .i64 a0 15))) + 8))))) else (some (wrap64 ((wrap64 (16 * (Go.bits .and .i64 a0 15))) + 8))))) else (some 0)) = some r := H
  have A2 := Aside0.mk A20
  clear A20
  by_cases c3 : t102 = true
  · subst c3
    have H1 : (if (Go.bits .and .i64 (a0 / 16) 7) > 0 then (if 0 ≤ (wrap64 ((Go.bits .and .i64 (a0 / 16) 7) - 1)) then (if a0 ≥ 128 then (some (wrap64 (-(shl .i64 (wrap64 ((wrap64 (16 * (Go.bits .and .i64 a0 15))) + 264)) (wrap64 ((Go.bits .and .i64 (a0 / 16) 7) - 1)))))) else (some (shl .i64 (wrap64 ((wrap64 (16 * (Go.bits .and .i64 a0 15))) + 264)) (wrap64 ((Go.bits .and .i64 (a0 / 16) 7) - 1))))) else (none)) else (if a0 ≥ 128 then (some (wrap64 (-(wrap64 ((wrap64 (16 * (Go.bits .and .i64 a0 15))) + 8))))) else (some (wrap64 ((wrap64 (16 * (Go.bits .and .i64 a0 15))) + 8))))) = some r := by rw [if_pos rfl] at H; exact H
    clear H
    have H := H1
    clear H1
    by_cases c4 : (Go.bits .and .i64 (a0 / 16) 7) > 0
    · rw [if_pos c4] at H
      have c4b0 : decide (0 < (Go.bits .and .i64 (a0 / 16) 7)) = true := decide_eq_true c4
      clear c4
      obtain ⟨ji5, hji5⟩ : ∃ j_ : Int, (wrap64 ((Go.bits .and .i64 (a0 / 16) 7) - 1)) = j_ := ⟨_, rfl⟩
      replace H : (if 0 ≤ (ji5) then (if a0 ≥ 128 then (some (wrap64 (-(shl .i64 (wrap64 ((wrap64 (16 * (Go.bits .and .i64 a0 15))) + 264)) (ji5))))) else (some (shl .i64 (wrap64 ((wrap64 (16 * (Go.bits .and .i64 a0 15))) + 264)) (ji5)))) else (none)) = some r := by first | (rw [hji5] at H; exact H) | (simp only [hji5] at H ⊢; exact H)
      (try rw [hji5] at A2)
      have hji5w : (IntKind.i64.wrap ((Go.bits .and .i64 (a0 / 16) 7) - 1)) = ji5 := (i64_w _).trans hji5
      by_cases c6 : 0 ≤ (ji5)
      · rw [if_pos c6] at H
        have c6b0 := eq_true c6
        have c6b1 : decide (0 ≤ (ji5)) = true := decide_eq_true c6
        clear c6
        obtain ⟨ji7, hji7⟩ : ∃ j_ : Int, (shl .i64 (wrap64 ((wrap64 (16 * (Go.bits .and .i64 a0 15))) + 264)) (ji5)) = j_ := ⟨_, rfl⟩
        replace H : (if a0 ≥ 128 then (some (wrap64 (-(ji7)))) else (some ji7)) = some r := by first | (rw [hji7] at H; exact H) | (simp only [hji7] at H ⊢; exact H)
        (try rw [hji7] at A2)
        have hji7_ : (IntKind.i64.wrap ((wrap64 ((wrap64 (16 * (Go.bits .and .i64 a0 15))) + 264)) * 2 ^ min (ji5).toNat 64)) = ji7 := hji7
        have hji7z : (ji5) ≤ 64 → (IntKind.i64.wrap ((wrap64 ((wrap64 (16 * (Go.bits .and .i64 a0 15))) + 264)) * 2 ^ (ji5).toNat)) = ji7 := shl_small hji7
        have hji7y : (wrap64 ((wrap64 ((wrap64 (16 * (Go.bits .and .i64 a0 15))) + 264)) * 2 ^ min (ji5).toNat 64)) = ji7 := (i64_w _).symm.trans hji7_
        have hji7x : (ji5) ≤ 64 → (wrap64 ((wrap64 ((wrap64 (16 * (Go.bits .and .i64 a0 15))) + 264)) * 2 ^ (ji5).toNat)) = ji7 := fun h_ => (i64_w _).symm.trans (hji7z h_)
        by_cases c8 : a0 ≥ 128
        · rw [if_pos c8] at H
          have c8b0 : decide (128 ≤ a0) = true := decide_eq_true c8
          clear c8
          obtain rfl := Option.some.inj H
          go_enter Try.func17, Try.ntmps17
          go_wp2_with (first | ((with_reducible refine gate_callee (f := 46) rfl ?_); refine goesL_ (some 7) rfl rfl Try.func46 (by kernel_rfl) rfl #[.int .i64 a0, .int .i64 0, .int .i64 255] rfl (by (try simp only [List.map_toArray, List.map_cons, List.map_nil]); first | done | rfl | (simp only [List.length_drop, List.length_take]; rfl)) ?_; (with_reducible refine (impl_in.calls a0 0 255 true _ A2.out).mono ?_); rintro e w' ⟨rfl, ⟨nd, rfl⟩⟩; refine ⟨_, rfl, ?_⟩))
          go_ret
          exact ⟨by first | rfl | (simp; done) | (simp only [← hji5, ← hji7] <;> (first | rfl | simp)) | (simp [*]; done), by repeat (first | exact Drawn0.refl _ | apply Drawn0.step)⟩
        · rw [if_neg c8] at H
          have c8b0 : decide (128 ≤ a0) = false := decide_eq_false c8
          clear c8
          obtain rfl := Option.some.inj H
          go_enter Try.func17, Try.ntmps17
          go_wp2_with (first | ((with_reducible refine gate_callee (f := 46) rfl ?_); refine goesL_ (some 7) rfl rfl Try.func46 (by kernel_rfl) rfl #[.int .i64 a0, .int .i64 0, .int .i64 255] rfl (by (try simp only [List.map_toArray, List.map_cons, List.map_nil]); first | done | rfl | (simp only [List.length_drop, List.length_take]; rfl)) ?_; (with_reducible refine (impl_in.calls a0 0 255 true _ A2.out).mono ?_); rintro e w' ⟨rfl, ⟨nd, rfl⟩⟩; refine ⟨_, rfl, ?_⟩))
          go_ret
          exact ⟨by first | rfl | (simp; done) | (simp only [← hji5, ← hji7] <;> (first | rfl | simp)) | (simp [*]; done), by repeat (first | exact Drawn0.refl _ | apply Drawn0.step)⟩
      · rw [if_neg c6] at H
        exact absurd H (by simp)
    · rw [if_neg c4] at H
      have c4b0 : decide (0 < (Go.bits .and .i64 (a0 / 16) 7)) = false := decide_eq_false c4
      clear c4
      by_cases c9 : a0 ≥ 128
      · rw [if_pos c9] at H
        have c9b0 : decide (128 ≤ a0) = true := decide_eq_true c9
        clear c9
        obtain rfl := Option.some.inj H
        go_enter Try.func17, Try.ntmps17
        go_wp2_with (first | ((with_reducible refine gate_callee (f := 46) rfl ?_); refine goesL_ (some 7) rfl rfl Try.func46 (by kernel_rfl) rfl #[.int .i64 a0, .int .i64 0, .int .i64 255] rfl (by (try simp only [List.map_toArray, List.map_cons, List.map_nil]); first | done | rfl | (simp only [List.length_drop, List.length_take]; rfl)) ?_; (with_reducible refine (impl_in.calls a0 0 255 true _ A2.out).mono ?_); rintro e w' ⟨rfl, ⟨nd, rfl⟩⟩; refine ⟨_, rfl, ?_⟩))
        go_ret
        exact ⟨by first | rfl | (simp; done) | (simp [*]; done), by repeat (first | exact Drawn0.refl _ | apply Drawn0.step)⟩
      · rw [if_neg c9] at H
        have c9b0 : decide (128 ≤ a0) = false := decide_eq_false c9
        clear c9
        obtain rfl := Option.some.inj H
        go_enter Try.func17, Try.ntmps17
        go_wp2_with (first | ((with_reducible refine gate_callee (f := 46) rfl ?_); refine goesL_ (some 7) rfl rfl Try.func46 (by kernel_rfl) rfl #[.int .i64 a0, .int .i64 0, .int .i64 255] rfl (by (try simp only [List.map_toArray, List.map_cons, List.map_nil]); first | done | rfl | (simp only [List.length_drop, List.length_take]; rfl)) ?_; (with_reducible refine (impl_in.calls a0 0 255 true _ A2.out).mono ?_); rintro e w' ⟨rfl, ⟨nd, rfl⟩⟩; refine ⟨_, rfl, ?_⟩))
        go_ret
        exact ⟨by first | rfl | (simp; done) | (simp [*]; done), by repeat (first | exact Drawn0.refl _ | apply Drawn0.step)⟩
  · replace c3 := Bool.eq_false_iff.mpr c3
    subst c3
    have H1 : (some 0) = some r := by rw [if_neg (show ¬ (false = true) by decide)] at H; exact H
    clear H
    have H := H1
    clear H1
    obtain rfl := Option.some.inj H
    go_enter Try.func17, Try.ntmps17
    go_wp2_with (first | ((with_reducible refine gate_callee (f := 46) rfl ?_); refine goesL_ (some 7) rfl rfl Try.func46 (by kernel_rfl) rfl #[.int .i64 a0, .int .i64 0, .int .i64 255] rfl (by (try simp only [List.map_toArray, List.map_cons, List.map_nil]); first | done | rfl | (simp only [List.length_drop, List.length_take]; rfl)) ?_; (with_reducible refine (impl_in.calls a0 0 255 false _ A2.out).mono ?_); rintro e w' ⟨rfl, ⟨nd, rfl⟩⟩; refine ⟨_, rfl, ?_⟩))
    go_ret
    exact ⟨by first | rfl | (simp; done) | (simp [*]; done), by repeat (first | exact Drawn0.refl _ | apply Drawn0.step)⟩

/-! ### laws_FnExactFromLaw: function 4 -/
def laws_FnExactFromLaw.f (a0 : Int) : Option (Bool) := (spec_FromLaw.f a0).bind fun t103 => ((impl_FromLaw.f a0).bind fun t104 => (if t104 = t103 then (some true) else (some false)))
set_option maxHeartbeats 8000000 in
set_option maxRecDepth 100000 in
theorem laws_FnExactFromLaw.calls (a0 : Int) (r : Bool) (w : World) (h : laws_FnExactFromLaw.f a0 = some r) :
    Calls Try.prog 4 #[.int .i64 a0] w fun e w' => e = .returned (.bool r) ∧ Drawn0 w w' := by
  have H : ((spec_FromLaw.f a0).bind fun t103 => ((impl_FromLaw.f a0).bind fun t104 => (if t104 = t103 then (some true) else (some false)))) = some r := h
  clear h
  replace H := Option.bind_eq_some_iff.mp H
  obtain ⟨t103, A20, H⟩ := H
  replace H : ((impl_FromLaw.f a0).bind fun t104 => (if t104 = t103 then (some true) else (some false))) = some r := H
  have A2 := Aside0.mk A20
  clear A20
  replace H := Option.bind_eq_some_iff.mp H
  obtain ⟨t104, A30, H⟩ := H
  replace H : (if t104 = t103 then (some true) else (some false)) = some r := H
  have A3 := Aside0.mk A30
  clear A30
  by_cases c4 : t104 = t103
  · rw [if_pos c4] at H
    have c4b0 : (t104 == t103) = true := beq_iff_eq.mpr c4
    have c4b1 : (t104 != t103) = false := bne_eq_false_iff_eq.mpr c4
    clear c4
    obtain rfl := Option.some.inj H
    go_enter Try.func4, Try.ntmps4
    go_wp2_with (first | ((with_reducible refine gate_callee (f := 16) rfl ?_); refine goesL_ (some 6) rfl rfl Try.func16 (by kernel_rfl) rfl #[.int .i64 a0] rfl (by (try simp only [List.map_toArray, List.map_cons, List.map_nil]); first | done | rfl | (simp only [List.length_drop, List.length_take]; rfl)) ?_; (with_reducible refine (spec_FromLaw.calls a0 t103 _ A2.out).mono ?_); rintro e w' ⟨rfl, ⟨nd, rfl⟩⟩; refine ⟨_, rfl, ?_⟩) | ((with_reducible refine gate_callee (f := 17) rfl ?_); refine goesL_ (some 8) rfl rfl Try.func17 (by kernel_rfl) rfl #[.int .i64 a0] rfl (by (try simp only [List.map_toArray, List.map_cons, List.map_nil]); first | done | rfl | (simp only [List.length_drop, List.length_take]; rfl)) ?_; (with_reducible refine (impl_FromLaw.calls a0 t104 _ A3.out).mono ?_); rintro e w' ⟨rfl, ⟨nd, rfl⟩⟩; refine ⟨_, rfl, ?_⟩))
    go_ret
    exact ⟨by first | rfl | (simp; done) | (simp [*]; done), by repeat (first | exact Drawn0.refl _ | apply Drawn0.step)⟩
  · rw [if_neg c4] at H
    have c4b0 : (t104 == t103) = false := beq_eq_false_iff_ne.mpr c4
    have c4b1 : (t104 != t103) = true := bne_iff_ne.mpr c4
    obtain rfl := Option.some.inj H
    go_enter Try.func4, Try.ntmps4
    go_wp2_with (first | ((with_reducible refine gate_callee (f := 16) rfl ?_); refine goesL_ (some 6) rfl rfl Try.func16 (by kernel_rfl) rfl #[.int .i64 a0] rfl (by (try simp only [List.map_toArray, List.map_cons, List.map_nil]); first | done | rfl | (simp only [List.length_drop, List.length_take]; rfl)) ?_; (with_reducible refine (spec_FromLaw.calls a0 t103 _ A2.out).mono ?_); rintro e w' ⟨rfl, ⟨nd, rfl⟩⟩; refine ⟨_, rfl, ?_⟩) | ((with_reducible refine gate_callee (f := 17) rfl ?_); refine goesL_ (some 8) rfl rfl Try.func17 (by kernel_rfl) rfl #[.int .i64 a0] rfl (by (try simp only [List.map_toArray, List.map_cons, List.map_nil]); first | done | rfl | (simp only [List.length_drop, List.length_take]; rfl)) ?_; (with_reducible refine (impl_FromLaw.calls a0 t104 _ A3.out).mono ?_); rintro e w' ⟨rfl, ⟨nd, rfl⟩⟩; refine ⟨_, rfl, ?_⟩))
    go_ret
    exact ⟨by first | rfl | (simp; done) | (simp [*]; done), by repeat (first | exact Drawn0.refl _ | apply Drawn0.step)⟩

/-- THE ONE PURE STATEMENT of laws_FnExactFromLaw: yours. -/
def laws_FnExactFromLaw.Pure : Prop := ∀ (a0 : Int), (Lit.int .i64 a0).wf = true → laws_FnExactFromLaw.f a0 = some true
theorem laws_FnExactFromLaw.walk (P : laws_FnExactFromLaw.Pure) (a0 : Int) (w : World) (w0 : (Lit.int .i64 a0).wf = true) :
    Calls Try.prog 4 #[.int .i64 a0] w fun e w' => e = .returned (.bool true) ∧ Below w.heap.size w w' := by
  have h := P a0 w0
  refine (laws_FnExactFromLaw.calls a0 true w h).mono ?_
  rintro e w' ⟨rfl, hd⟩
  exact ⟨rfl, hd.below⟩

end Go.Proofs.Yteaelhdcmnhcbaa.PFnExactFromLaw
