-- laid by a program of this session (wip/lay/lay.py); Lean checks it
import Derived.Test.YtkcmdfeiaafdjaaVFnHopsShort
import Derived.Test.YtkcmdfeiaafdjaaPFnHopsx0
import Derived.Test.YtkcmdfeiaafdjaaPFnHopsx8
import Derived.Test.YtkcmdfeiaafdjaaPFnHopsx9
namespace Go.Proofs.Ytkcmdfeiaafdjaa.PFnHops
-- squashed
open Go.RowKit Go.Proofs.YtkcmdfeiaafdjaaW.PrintWords Go.Proofs.YtkcmdfeiaafdjaaW.PrintLast Go.Proofs.YtkcmdfeiaafdjaaW.PrintMore Go.Proofs.Ytkcmdfeiaafdjaa.Short
attribute [local go_sem] max2_int min2_int max_two min_two max_three min_three max_four min_four   -- for this text's walks alone
set_option linter.unusedVariables false
set_option linter.unusedSimpArgs false

/-! ### spec_l1Size: function 70 -/
def spec_l1Size.f (l0 : List Int) (a1 : Int) : Option (Int) := if (wrap64 (2 + (wrap64 ((l0.length : Int) / 20)))) > a1 then (some a1) else (some (wrap64 (2 + (wrap64 ((l0.length : Int) / 20)))))
set_option maxHeartbeats 8000000 in
set_option maxRecDepth 100000 in
theorem spec_l1Size.calls (A0 : Option Addr) (c0 : Nat) (l0 : List Int) (a1 : Int) (r : Int) (w : World) (hr0 : Kd.C (Kd.int .u8) w A0 l0.length l0) (hc0 : l0.length ≤ c0) (h : spec_l1Size.f l0 a1 = some r) :
  Calls Try.prog 70 #[.slice A0 l0.length c0, .int .i64 a1] w fun e w' => e = .returned (.int .i64 r) ∧ Drawn0 w w' := by
 have HR0 := Aside0.mk hr0; have HC0 := Aside0.mk hc0; clear hr0 hc0; have H : (if (wrap64 (2 + (wrap64 ((l0.length : Int) / 20)))) > a1 then (some a1) else (some (wrap64 (2 + (wrap64 ((l0.length : Int) / 20)))))) = some r := h; clear h
 by_cases c3 : (wrap64 (2 + (wrap64 ((l0.length : Int) / 20)))) > a1
 case pos =>
  rw [if_pos c3] at H; have c3b0 : decide (a1 < (wrap64 (2 + (wrap64 ((l0.length : Int) / 20))))) = true := decide_eq_true c3; clear c3; obtain rfl := Option.some.inj H
  go_enter Try.func70, Try.ntmps70
  go_wp2
  go_ret
  exact ⟨by first | rfl | (simp; done) | (simp [*]; done), by repeat (first | exact Drawn0.refl _ | apply Drawn0.step)⟩
 rw [if_neg c3] at H; have c3b0 : decide (a1 < (wrap64 (2 + (wrap64 ((l0.length : Int) / 20))))) = false := decide_eq_false c3; clear c3; obtain rfl := Option.some.inj H
 go_enter Try.func70, Try.ntmps70
 go_wp2
 go_ret
 exact ⟨by first | rfl | (simp; done) | (simp [*]; done), by repeat (first | exact Drawn0.refl _ | apply Drawn0.step)⟩

/-! ### spec_l7DrawAny: function 48 -/
def spec_l7DrawAny.f (k : Nat) (s0_0 : List Int) (s0_1 : Int) (s0_2 : Int) (l1 : List Int) : Option ((List (S43)) × Int × Int) := (spec_l1Size.f l1 6).bind fun t320 => ((spec_l1Below.f s0_0 s0_1 s0_2 t320).bind fun bt321 => ((spec_l7Draw.f k s0_0 bt321.2.1 bt321.2.2 (wrap64 (2 + bt321.1))).bind fun bt324 => ((spec_l1Below.f s0_0 bt324.2.1 bt324.2.2 25).bind fun bt329 => (if bt329.1 = 0 then (if 0 < (bt324.1.length : Int) then ((spec_l1Below.f s0_0 bt329.2.1 bt329.2.2 9).bind fun bt333 => ((spec_l1Below.f s0_0 bt333.2.1 bt333.2.2 (wrap64 ((bt324.1.length : Int) + 1))).bind fun bt336 => (if ((rd_T43 bt324.1 0).f2).length < 8796093022208 then (some ((bt324.1.set (0 : Int).toNat (⟨(rd_T43 bt324.1 0).f0, (rd_T43 bt324.1 0).f1, (((rd_T43 bt324.1 0).f2) ++ [(⟨bt333.1, bt336.1⟩ : S45)])⟩ : S43)), bt336.2.1, bt336.2.2)) else (none)))) else (none)) else (if bt329.1 = 1 then ((spec_l1Below.f s0_0 bt329.2.1 bt329.2.2 2).bind fun bt343 => (if 0 ≤ (wrap64 ((wrap64 (16 - (bt324.1.length : Int))) + bt343.1)) then (if bt324.1.length + (wrap64 ((wrap64 (16 - (bt324.1.length : Int))) + bt343.1) : Int).toNat < 4398046511104 then (some ((bt324.1 ++ List.replicate (wrap64 ((wrap64 (16 - (bt324.1.length : Int))) + bt343.1) : Int).toNat z43), bt343.2.1, bt343.2.2)) else (none)) else (none))) else (if bt329.1 = 2 then (some (([] : List (S43)), bt329.2.1, bt329.2.2)) else (some (bt324.1, bt329.2.1, bt329.2.2))))))))
theorem spec_l7DrawAny.mono : ∀ a0 a1 a2 a3 k, LeO (spec_l7DrawAny.f k a0 a1 a2 a3) (spec_l7DrawAny.f (k + 1) a0 a1 a2 a3) := by
 intro a0 a1 a2 a3 k
 unfold spec_l7DrawAny.f
 repeat' first
   | (with_reducible exact spec_l7Draw.mono _ _ _ _ _)
   | (with_reducible exact LeO.refl _)
   | (with_reducible exact LeO.none _)
   | (with_reducible refine LeO.ite ?_ ?_)
   | (with_reducible refine LeO.bind ?_ (fun _ => ?_))
   | exact spec_l7Draw.mono _ _ _ _ _
   | exact LeO.none _
   | refine LeO.ite ?_ ?_
   | refine LeO.bind ?_ (fun _ => ?_)
def spec_l7DrawAny.T4 : Bool × List (List Nat × List Nat) := (true, [([], []), ([], []), ([1], [1]), ([2], [2]), ([3], [3]), ([], []), ([5], [5]), ([], []), ([], []), ([8], [8]), ([9], [9]), ([7, 10, 6], [7, 10]), ([6, 11], [6, 11]), ([12], [12]), ([4, 13, 11], [4, 13]), ([0, 0, 1, 2, 3, 4, 5, 6, 7, 8, 9, 10, 11, 12, 13, 14], [0]), ([15, 0, 1, 2, 3, 4, 5, 6, 7, 8, 9, 10, 11, 12, 13, 14], [15]), ([16, 14, 14, 0, 1, 2, 3, 4, 5, 6, 7, 8, 9, 10, 11, 12, 13, 14], [14, 16])])
def spec_l7DrawAny.B4 : List Nat := [0, 0, 2, 6, 14, 0, 32, 0, 0, 256, 768, 2016, 4064, 8160, 16382, 32767, 65535, 131071]
theorem spec_l7DrawAny.tab4 : rtab .any (opsOf Try.f48 4) = spec_l7DrawAny.T4 := by kernel_rfl
theorem spec_l7DrawAny.bits4 : waitsOk spec_l7DrawAny.T4.2 spec_l7DrawAny.B4 = true := by kernel_rfl
set_option maxHeartbeats 8000000 in
set_option maxRecDepth 100000 in
theorem spec_l7DrawAny.calls (k : Nat) (g : Nat) (s0_0 : List Int) (s0_1 : Int) (s0_2 : Int) (A1 : Option Addr) (c1 : Nat) (l1 : List Int) (r1 : List (S43)) (r2 : Int) (r3 : Int) (w0 w : World) (hI : IsS98 w0 w g s0_0 s0_1 s0_2) (hB : Below w0.heap.size w0 w) (hr1 : Kd.C (Kd.int .u8) w A1 l1.length l1) (hc1 : l1.length ≤ c1) (hf1 : ∀ ad, A1 = some ad → 0 < l1.length → ad.block ≠ g) (h : spec_l7DrawAny.f k s0_0 s0_1 s0_2 l1 = some (r1, r2, r3)) :
  Calls Try.prog 48 #[.pointer (some ⟨g, 0, none⟩), .slice A1 l1.length c1] w fun e w' => ∃ v0_ : Value, e = .returned (v0_) ∧ Kd.S k43 43 w' w.heap.size (fun _ => True) v0_ r1 ∧ IsS98 w0 w' g s0_0 r2 r3 ∧ Below w0.heap.size w0 w' ∧ KeepBut w w' g none := by
 have hu45 := Try.underlying45; have HR1 := Aside0.mk hr1; have HC1 := Aside0.mk hc1; clear hr1 hc1; have HI0 := Aside0.mk hI; have HK := Aside0.mk (KeepBut.refl w g none); have HL := Aside0.mk hB.size; clear hI; have HW0 := Aside0.mk hB.size; have HB := Aside0.mk hB; clear hB
 have H : ((spec_l1Size.f l1 6).bind fun t320 => ((spec_l1Below.f s0_0 s0_1 s0_2 t320).bind fun bt321 => ((spec_l7Draw.f k s0_0 bt321.2.1 bt321.2.2 (wrap64 (2 + bt321.1))).bind fun bt324 => ((spec_l1Below.f s0_0 bt324.2.1 bt324.2.2 25).bind fun bt329 => (if bt329.1 = 0 then (if 0 < (bt324.1.length : Int) then ((spec_l1Below.f s0_0 bt329.2.1 bt329.2.2 9).bind fun bt333 => ((spec_l1Below.f s0_0 bt333.2.1 bt333.2.2 (wrap64 ((bt324.1.length : Int) + 1))).bind fun bt336 => (if ((rd_T43 bt324.1 0).f2).length < 8796093022208 then (some ((bt324.1.set (0 : Int).toNat (⟨(rd_T43 bt324.1 0).f0, (rd_T43 bt324.1 0).f1, (((rd_T43 bt324.1 0).f2) ++ [(⟨bt333.1, bt336.1⟩ : S45)])⟩ : S43)), bt336.2.1, bt336.2.2)) else (none)))) else (none)) else (if bt329.1 = 1 then ((spec_l1Below.f s0_0 bt329.2.1 bt329.2.2 2).bind fun bt343 => (if 0 ≤ (wrap64 ((wrap64 (16 - (bt324.1.length : Int))) + bt343.1)) then (if bt324.1.length + (wrap64 ((wrap64 (16 - (bt324.1.length : Int))) + bt343.1) : Int).toNat < 4398046511104 then (some ((bt324.1 ++ List.replicate (wrap64 ((wrap64 (16 - (bt324.1.length : Int))) + bt343.1) : Int).toNat z43), bt343.2.1, bt343.2.2)) else (none)) else (none))) else (if bt329.1 = 2 then (some (([] : List (S43)), bt329.2.1, bt329.2.2)) else (some (bt324.1, bt329.2.1, bt329.2.2))))))))) = some (r1, r2, r3) := h
 clear h; replace H := Option.bind_eq_some_iff.mp H; obtain ⟨t320, A30, H⟩ := H
 replace H : ((spec_l1Below.f s0_0 s0_1 s0_2 t320).bind fun bt321 => ((spec_l7Draw.f k s0_0 bt321.2.1 bt321.2.2 (wrap64 (2 + bt321.1))).bind fun bt324 => ((spec_l1Below.f s0_0 bt324.2.1 bt324.2.2 25).bind fun bt329 => (if bt329.1 = 0 then (if 0 < (bt324.1.length : Int) then ((spec_l1Below.f s0_0 bt329.2.1 bt329.2.2 9).bind fun bt333 => ((spec_l1Below.f s0_0 bt333.2.1 bt333.2.2 (wrap64 ((bt324.1.length : Int) + 1))).bind fun bt336 => (if ((rd_T43 bt324.1 0).f2).length < 8796093022208 then (some ((bt324.1.set (0 : Int).toNat (⟨(rd_T43 bt324.1 0).f0, (rd_T43 bt324.1 0).f1, (((rd_T43 bt324.1 0).f2) ++ [(⟨bt333.1, bt336.1⟩ : S45)])⟩ : S43)), bt336.2.1, bt336.2.2)) else (none)))) else (none)) else (if bt329.1 = 1 then ((spec_l1Below.f s0_0 bt329.2.1 bt329.2.2 2).bind fun bt343 => (if 0 ≤ (wrap64 ((wrap64 (16 - (bt324.1.length : Int))) + bt343.1)) then (if bt324.1.length + (wrap64 ((wrap64 (16 - (bt324.1.length : Int))) + bt343.1) : Int).toNat < 4398046511104 then (some ((bt324.1 ++ List.replicate (wrap64 ((wrap64 (16 - (bt324.1.length : Int))) + bt343.1) : Int).toNat z43), bt343.2.1, bt343.2.2)) else (none)) else (none))) else (if bt329.1 = 2 then (some (([] : List (S43)), bt329.2.1, bt329.2.2)) else (some (bt324.1, bt329.2.1, bt329.2.2)))))))) = some (r1, r2, r3) := H
 have A3 := Aside0.mk A30; clear A30; replace H := Option.bind_eq_some_iff.mp H; obtain ⟨⟨t321, t322, t323⟩, A40, H⟩ := H
 replace H : ((spec_l7Draw.f k s0_0 t322 t323 (wrap64 (2 + t321))).bind fun bt324 => ((spec_l1Below.f s0_0 bt324.2.1 bt324.2.2 25).bind fun bt329 => (if bt329.1 = 0 then (if 0 < (bt324.1.length : Int) then ((spec_l1Below.f s0_0 bt329.2.1 bt329.2.2 9).bind fun bt333 => ((spec_l1Below.f s0_0 bt333.2.1 bt333.2.2 (wrap64 ((bt324.1.length : Int) + 1))).bind fun bt336 => (if ((rd_T43 bt324.1 0).f2).length < 8796093022208 then (some ((bt324.1.set (0 : Int).toNat (⟨(rd_T43 bt324.1 0).f0, (rd_T43 bt324.1 0).f1, (((rd_T43 bt324.1 0).f2) ++ [(⟨bt333.1, bt336.1⟩ : S45)])⟩ : S43)), bt336.2.1, bt336.2.2)) else (none)))) else (none)) else (if bt329.1 = 1 then ((spec_l1Below.f s0_0 bt329.2.1 bt329.2.2 2).bind fun bt343 => (if 0 ≤ (wrap64 ((wrap64 (16 - (bt324.1.length : Int))) + bt343.1)) then (if bt324.1.length + (wrap64 ((wrap64 (16 - (bt324.1.length : Int))) + bt343.1) : Int).toNat < 4398046511104 then (some ((bt324.1 ++ List.replicate (wrap64 ((wrap64 (16 - (bt324.1.length : Int))) + bt343.1) : Int).toNat z43), bt343.2.1, bt343.2.2)) else (none)) else (none))) else (if bt329.1 = 2 then (some (([] : List (S43)), bt329.2.1, bt329.2.2)) else (some (bt324.1, bt329.2.1, bt329.2.2))))))) = some (r1, r2, r3) := H
 have A4 := Aside0.mk A40; clear A40; replace H := Option.bind_eq_some_iff.mp H; obtain ⟨⟨t324, t327, t328⟩, A50, H⟩ := H
 replace H : ((spec_l1Below.f s0_0 t327 t328 25).bind fun bt329 => (if bt329.1 = 0 then (if 0 < (t324.length : Int) then ((spec_l1Below.f s0_0 bt329.2.1 bt329.2.2 9).bind fun bt333 => ((spec_l1Below.f s0_0 bt333.2.1 bt333.2.2 (wrap64 ((t324.length : Int) + 1))).bind fun bt336 => (if ((rd_T43 t324 0).f2).length < 8796093022208 then (some ((t324.set (0 : Int).toNat (⟨(rd_T43 t324 0).f0, (rd_T43 t324 0).f1, (((rd_T43 t324 0).f2) ++ [(⟨bt333.1, bt336.1⟩ : S45)])⟩ : S43)), bt336.2.1, bt336.2.2)) else (none)))) else (none)) else (if bt329.1 = 1 then ((spec_l1Below.f s0_0 bt329.2.1 bt329.2.2 2).bind fun bt343 => (if 0 ≤ (wrap64 ((wrap64 (16 - (t324.length : Int))) + bt343.1)) then (if t324.length + (wrap64 ((wrap64 (16 - (t324.length : Int))) + bt343.1) : Int).toNat < 4398046511104 then (some ((t324 ++ List.replicate (wrap64 ((wrap64 (16 - (t324.length : Int))) + bt343.1) : Int).toNat z43), bt343.2.1, bt343.2.2)) else (none)) else (none))) else (if bt329.1 = 2 then (some (([] : List (S43)), bt329.2.1, bt329.2.2)) else (some (t324, bt329.2.1, bt329.2.2)))))) = some (r1, r2, r3) := H
 have A5 := Aside0.mk A50; clear A50; replace H := Option.bind_eq_some_iff.mp H; obtain ⟨⟨t329, t330, t331⟩, A60, H⟩ := H
 replace H : (if t329 = 0 then (if 0 < (t324.length : Int) then ((spec_l1Below.f s0_0 t330 t331 9).bind fun bt333 => ((spec_l1Below.f s0_0 bt333.2.1 bt333.2.2 (wrap64 ((t324.length : Int) + 1))).bind fun bt336 => (if ((rd_T43 t324 0).f2).length < 8796093022208 then (some ((t324.set (0 : Int).toNat (⟨(rd_T43 t324 0).f0, (rd_T43 t324 0).f1, (((rd_T43 t324 0).f2) ++ [(⟨bt333.1, bt336.1⟩ : S45)])⟩ : S43)), bt336.2.1, bt336.2.2)) else (none)))) else (none)) else (if t329 = 1 then ((spec_l1Below.f s0_0 t330 t331 2).bind fun bt343 => (if 0 ≤ (wrap64 ((wrap64 (16 - (t324.length : Int))) + bt343.1)) then (if t324.length + (wrap64 ((wrap64 (16 - (t324.length : Int))) + bt343.1) : Int).toNat < 4398046511104 then (some ((t324 ++ List.replicate (wrap64 ((wrap64 (16 - (t324.length : Int))) + bt343.1) : Int).toNat z43), bt343.2.1, bt343.2.2)) else (none)) else (none))) else (if t329 = 2 then (some (([] : List (S43)), t330, t331)) else (some (t324, t330, t331))))) = some (r1, r2, r3) := H
 have A6 := Aside0.mk A60; clear A60
 by_cases c7 : t329 = 0
 case neg =>
  rw [if_neg c7] at H; have c7b0 : (t329 == 0) = false := beq_eq_false_iff_ne.mpr c7; have c7b1 : (t329 != 0) = true := bne_iff_ne.mpr c7
  by_cases c25 : t329 = 1
  case pos =>
   rw [if_pos c25] at H; have c25b0 : (t329 == 1) = true := beq_iff_eq.mpr c25; have c25b1 : (t329 != 1) = false := bne_eq_false_iff_eq.mpr c25; clear c25; replace H := Option.bind_eq_some_iff.mp H; obtain ⟨⟨t343, t344, t345⟩, A260, H⟩ := H
   replace H : (if 0 ≤ (wrap64 ((wrap64 (16 - (t324.length : Int))) + t343)) then (if t324.length + (wrap64 ((wrap64 (16 - (t324.length : Int))) + t343) : Int).toNat < 4398046511104 then (some ((t324 ++ List.replicate (wrap64 ((wrap64 (16 - (t324.length : Int))) + t343) : Int).toNat z43), t344, t345)) else (none)) else (none)) = some (r1, r2, r3) := H
   have A26 := Aside0.mk A260; clear A260; obtain ⟨ji27, hji27⟩ : ∃ j_ : Int, (wrap64 ((wrap64 (16 - (t324.length : Int))) + t343)) = j_ := ⟨_, rfl⟩
   replace H : (if 0 ≤ (ji27) then (if t324.length + (ji27 : Int).toNat < 4398046511104 then (some ((t324 ++ List.replicate (ji27 : Int).toNat z43), t344, t345)) else (none)) else (none)) = some (r1, r2, r3) := by first | (rw [hji27] at H; exact H) | (simp only [hji27] at H ⊢; exact H)
   (try rw [hji27] at A3)
   (try rw [hji27] at A4)
   (try rw [hji27] at A5)
   (try rw [hji27] at A6)
   (try rw [hji27] at A26)
   have hji27w : (IntKind.i64.wrap ((wrap64 (16 - (t324.length : Int))) + t343)) = ji27 := (i64_w _).trans hji27
   by_cases c28 : 0 ≤ (ji27)
   case neg =>
    rw [if_neg c28] at H
    exact absurd H (by simp)
   rw [if_pos c28] at H; have c28b0 := eq_true c28; have c28b1 : decide (0 ≤ (ji27)) = true := decide_eq_true c28; clear c28
   by_cases c29 : t324.length + (ji27 : Int).toNat < 4398046511104
   case neg =>
    rw [if_neg c29] at H
    exact absurd H (by simp)
   rw [if_pos c29] at H; have LMc29 := Aside0.mk c29; clear c29; obtain ⟨y346, hy346⟩ : ∃ y_ : List (S43), y_ = (t324 ++ List.replicate (ji27 : Int).toNat z43) := ⟨_, rfl⟩
   replace H : (some (y346, t344, t345)) = some (r1, r2, r3) := by first | (rw [hy346]; with_reducible exact H) | (have H2_ := (Option.bind_some _ _).symm.trans H; rw [hy346]; with_reducible exact H2_) | (have H2_ := (Option.bind_some _ _).symm.trans H; with_reducible exact H2_) | with_reducible exact H | (rw [hy346]; exact H) | exact H
   have Ny346 := Aside0.mk hy346; clear hy346; simp only [Option.some.injEq, Prod.mk.injEq] at H; obtain ⟨rfl, rfl, rfl⟩ := H
   go_enter Try.func48, Try.ntmps48
   go_wp2_with (first | ((with_reducible refine gate_callee (f := 70) rfl ?_); refine goesL_ (some 9) rfl rfl Try.func70 (by kernel_rfl) rfl #[.slice A1 l1.length c1, .int .i64 6] rfl (by (try simp only [List.map_toArray, List.map_cons, List.map_nil]); first | done | rfl | (simp only [List.length_drop, List.length_take]; rfl)) ?_; (with_reducible refine (spec_l1Size.calls _ _ l1 6 t320 _ ?side1 ?side2 A3.out).mono ?_); (case side1 => exact Kd.C_keep 0 HR1.out (kA_ HK.out) hf1); (case side2 => exact HC1.out); rintro e w' ⟨rfl, ⟨nd, rfl⟩⟩; refine ⟨_, rfl, ?_⟩) | ((with_reducible refine gate_callee (f := 49) rfl ?_); refine goesL_ (some 10) rfl rfl Try.func49 (by kernel_rfl) rfl #[.pointer (some ⟨g, 0, none⟩), .int .i64 t320] rfl (by (try simp only [List.map_toArray, List.map_cons, List.map_nil]); first | done | rfl | (simp only [List.length_drop, List.length_take]; rfl)) ?_; (with_reducible refine (spec_l1Below.calls g s0_0 s0_1 s0_2 t320 t321 t322 t323 w0 _ ?side1 ?side2 A4.out).mono ?_); (case side1 => repeat (first | (with_reducible first | exact HI0.out | apply IsS98.alloc | apply IsS98.drewN | apply IsS98.drew | apply IsS98.set_1 | apply IsS98.set_2) | exact HI0.out)); (case side2 => repeat (first | (with_reducible first | exact HB.out | apply below_alloc | apply pw_below_drewN | apply below_drew1 | refine below_set ?_ (IsS98.ge HI0.out)) | exact HB.out)); rintro e w30 ⟨rfl, hi, hb, hk⟩; refine ⟨_, rfl, ?_⟩; replace HK := Aside0.mk (KeepBut.trans (kA_ HK.out) hk (.inl rfl)); replace HB := Aside0.mk (hb); replace HI0 := Aside0.mk (hi); (try clear hb); (try clear hb2); (try clear hk); (try clear hi)) | ((with_reducible refine gate_callee (f := 69) rfl ?_); refine goesL_ (some 12) rfl rfl Try.func69 (by kernel_rfl) rfl #[.pointer (some ⟨g, 0, none⟩), .int .i64 (wrap64 (2 + t321))] rfl (by (try simp only [List.map_toArray, List.map_cons, List.map_nil]); first | done | rfl | (simp only [List.length_drop, List.length_take]; rfl)) ?_; (with_reducible refine (spec_l7Draw.calls k g s0_0 t322 t323 (wrap64 (2 + t321)) t324 t327 t328 w0 _ ?side1 ?side2 A5.out).mono ?_); (case side1 => repeat (first | (with_reducible first | exact HI0.out | apply IsS98.alloc | apply IsS98.drewN | apply IsS98.drew | apply IsS98.set_1 | apply IsS98.set_2) | exact HI0.out)); (case side2 => repeat (first | (with_reducible first | exact HB.out | apply below_alloc | apply pw_below_drewN | apply below_drew1 | refine below_set ?_ (IsS98.ge HI0.out)) | exact HB.out)); rintro e w31 ⟨v325, rfl, ho0, hi, hb, hk⟩; refine ⟨_, rfl, ?_⟩; have HO326 := Aside0.mk (Kd.S_lower ho0 (keep_size (w := w) (g := g) (row := none) (kA_ HK.out))); replace HK := Aside0.mk (KeepBut.trans (kA_ HK.out) hk (.inl rfl)); replace HB := Aside0.mk (hb); replace HI0 := Aside0.mk (hi); (try clear hb); (try clear hb2); (try clear hk); (try clear hi); (try clear ho0)) | ((with_reducible refine gate_callee (f := 49) rfl ?_); refine goesL_ (some 14) rfl rfl Try.func49 (by kernel_rfl) rfl #[.pointer (some ⟨g, 0, none⟩), .int .i64 25] rfl (by (try simp only [List.map_toArray, List.map_cons, List.map_nil]); first | done | rfl | (simp only [List.length_drop, List.length_take]; rfl)) ?_; (with_reducible refine (spec_l1Below.calls g s0_0 t327 t328 25 t329 t330 t331 w0 _ ?side1 ?side2 A6.out).mono ?_); (case side1 => repeat (first | (with_reducible first | exact HI0.out | apply IsS98.alloc | apply IsS98.drewN | apply IsS98.drew | apply IsS98.set_1 | apply IsS98.set_2) | exact HI0.out)); (case side2 => repeat (first | (with_reducible first | exact HB.out | apply below_alloc | apply pw_below_drewN | apply below_drew1 | refine below_set ?_ (IsS98.ge HI0.out)) | exact HB.out)); rintro e w32 ⟨rfl, hi, hb, hk⟩; refine ⟨_, rfl, ?_⟩; replace HO326 := Aside0.mk (Kd.S_mono (Kd.S_keep (IsS98.apartS (show IsS98 w0 _ g s0_0 t327 t328 from by exact isAll) (pS_ HO326.out) (by decide)) hk (fun _ h => h.2)) (fun _ h => h.1)); replace HK := Aside0.mk (KeepBut.trans (kA_ HK.out) hk (.inl rfl)); replace HB := Aside0.mk (hb); replace HI0 := Aside0.mk (hi); (try clear hb); (try clear hb2); (try clear hk); (try clear hi); obtain ⟨Ao33, co33, eo33⟩ := Kd.S_slice HO326.out; subst eo33) | ((with_reducible refine gate_callee (f := 49) rfl ?_); refine goesL_ (some 41) rfl rfl Try.func49 (by kernel_rfl) rfl #[.pointer (some ⟨g, 0, none⟩), .int .i64 2] rfl (by (try simp only [List.map_toArray, List.map_cons, List.map_nil]); first | done | rfl | (simp only [List.length_drop, List.length_take]; rfl)) ?_; (with_reducible refine (spec_l1Below.calls g s0_0 t330 t331 2 t343 t344 t345 w0 _ ?side1 ?side2 A26.out).mono ?_); (case side1 => repeat (first | (with_reducible first | exact HI0.out | apply IsS98.alloc | apply IsS98.drewN | apply IsS98.drew | apply IsS98.set_1 | apply IsS98.set_2) | exact HI0.out)); (case side2 => repeat (first | (with_reducible first | exact HB.out | apply below_alloc | apply pw_below_drewN | apply below_drew1 | refine below_set ?_ (IsS98.ge HI0.out)) | exact HB.out)); rintro e w34 ⟨rfl, hi, hb, hk⟩; refine ⟨_, rfl, ?_⟩; replace HO326 := Aside0.mk (Kd.S_mono (Kd.S_keep (IsS98.apartS (show IsS98 w0 _ g s0_0 t330 t331 from by exact isAll) (pS_ HO326.out) (by decide)) hk (fun _ h => h.2)) (fun _ h => h.1)); replace HK := Aside0.mk (KeepBut.trans (kA_ HK.out) hk (.inl rfl)); replace HB := Aside0.mk (hb); replace HI0 := Aside0.mk (hi); (try clear hb); (try clear hb2); (try clear hk); (try clear hi)) | (at_builtin; refine Kd.S_append_zeros k43 w.heap.size rfl (.tmp 36) (.tmp 42) 28 3 43 (.agg #[(.bool false), (.bool false), (.slice none 0 0)]) 32 rfl Try.underlying28 Try.underlying3 info43 rfl (by decide) (by omega) (.slice Ao33 t324.length co33) t324 z43 (ji27 : Int) (fun _ => True) rfl rfl (k43_mkM _ _ _ z43 (Kd.R_nil _ _ _ _ _)) ?aF ?aO (of_decide_eq_true (by first | (with_reducible assumption) | assumption)) (Below.refl _ _) ?aS ?aL ?_; (case aF => exact (fun _ _ => trivial)); (case aO => exact (pS_ HO326.out)); (case aS => exact (keep_size (w := w) (g := g) (row := none) (kA_ HK.out))); (case aL => have := LMc29.out; omega); intro v347 w35 ho hb hg hat; rw [← Ny346.out] at ho; have n0_ := Aside0.mk (IsS98.grown isAll hg (IsS98.own_neS HI0.out HO326.out (by decide))); have n1_ := Aside0.mk (below_weaken (by exact belowAll) HL.out hb); have n2_ := Aside0.mk (KeepBut.trans (kA_ HK.out) (KeepBut.of_grown hg g) (Kd.S_base2 HO326.out)); have n3_ := Aside0.mk (ho); clear HI0; clear HB; clear HK; clear HO326; have HI0 := n0_; have HB := n1_; have HK := n2_; have HO348 := n3_; clear n0_ n1_ n2_ n3_; clear ho hb hg hat))
   go_ret
   exact ⟨_, by first | rfl | (simp [errW_none, errW_some] <;> rfl) | (simp only [← hji27]; first | rfl | (simp [errW_none, errW_some] <;> rfl)) | (simp [*, errW_none, errW_some] <;> rfl), by (with_reducible repeat (first | apply Kd.S_alloc | apply Kd.S_drewN | apply Kd.S_drew)); exact HO348.out, by exact isAll, by exact belowAll, by exact (kA_ HK.out)⟩
  rw [if_neg c25] at H; have c25b0 : (t329 == 1) = false := beq_eq_false_iff_ne.mpr c25; have c25b1 : (t329 != 1) = true := bne_iff_ne.mpr c25
  by_cases c36 : t329 = 2
  case neg =>
   rw [if_neg c36] at H; have c36b0 : (t329 == 2) = false := beq_eq_false_iff_ne.mpr c36; have c36b1 : (t329 != 2) = true := bne_iff_ne.mpr c36; simp only [Option.some.injEq, Prod.mk.injEq] at H; obtain ⟨rfl, rfl, rfl⟩ := H
   go_enter Try.func48, Try.ntmps48
   go_wp2_with (first | ((with_reducible refine gate_callee (f := 70) rfl ?_); refine goesL_ (some 9) rfl rfl Try.func70 (by kernel_rfl) rfl #[.slice A1 l1.length c1, .int .i64 6] rfl (by (try simp only [List.map_toArray, List.map_cons, List.map_nil]); first | done | rfl | (simp only [List.length_drop, List.length_take]; rfl)) ?_; (with_reducible refine (spec_l1Size.calls _ _ l1 6 t320 _ ?side1 ?side2 A3.out).mono ?_); (case side1 => exact Kd.C_keep 0 HR1.out (kA_ HK.out) hf1); (case side2 => exact HC1.out); rintro e w' ⟨rfl, ⟨nd, rfl⟩⟩; refine ⟨_, rfl, ?_⟩) | ((with_reducible refine gate_callee (f := 49) rfl ?_); refine goesL_ (some 10) rfl rfl Try.func49 (by kernel_rfl) rfl #[.pointer (some ⟨g, 0, none⟩), .int .i64 t320] rfl (by (try simp only [List.map_toArray, List.map_cons, List.map_nil]); first | done | rfl | (simp only [List.length_drop, List.length_take]; rfl)) ?_; (with_reducible refine (spec_l1Below.calls g s0_0 s0_1 s0_2 t320 t321 t322 t323 w0 _ ?side1 ?side2 A4.out).mono ?_); (case side1 => repeat (first | (with_reducible first | exact HI0.out | apply IsS98.alloc | apply IsS98.drewN | apply IsS98.drew | apply IsS98.set_1 | apply IsS98.set_2) | exact HI0.out)); (case side2 => repeat (first | (with_reducible first | exact HB.out | apply below_alloc | apply pw_below_drewN | apply below_drew1 | refine below_set ?_ (IsS98.ge HI0.out)) | exact HB.out)); rintro e w40 ⟨rfl, hi, hb, hk⟩; refine ⟨_, rfl, ?_⟩; replace HK := Aside0.mk (KeepBut.trans (kA_ HK.out) hk (.inl rfl)); replace HB := Aside0.mk (hb); replace HI0 := Aside0.mk (hi); (try clear hb); (try clear hb2); (try clear hk); (try clear hi)) | ((with_reducible refine gate_callee (f := 69) rfl ?_); refine goesL_ (some 12) rfl rfl Try.func69 (by kernel_rfl) rfl #[.pointer (some ⟨g, 0, none⟩), .int .i64 (wrap64 (2 + t321))] rfl (by (try simp only [List.map_toArray, List.map_cons, List.map_nil]); first | done | rfl | (simp only [List.length_drop, List.length_take]; rfl)) ?_; (with_reducible refine (spec_l7Draw.calls k g s0_0 t322 t323 (wrap64 (2 + t321)) t324 t327 t328 w0 _ ?side1 ?side2 A5.out).mono ?_); (case side1 => repeat (first | (with_reducible first | exact HI0.out | apply IsS98.alloc | apply IsS98.drewN | apply IsS98.drew | apply IsS98.set_1 | apply IsS98.set_2) | exact HI0.out)); (case side2 => repeat (first | (with_reducible first | exact HB.out | apply below_alloc | apply pw_below_drewN | apply below_drew1 | refine below_set ?_ (IsS98.ge HI0.out)) | exact HB.out)); rintro e w41 ⟨v325, rfl, ho0, hi, hb, hk⟩; refine ⟨_, rfl, ?_⟩; have HO326 := Aside0.mk (Kd.S_lower ho0 (keep_size (w := w) (g := g) (row := none) (kA_ HK.out))); replace HK := Aside0.mk (KeepBut.trans (kA_ HK.out) hk (.inl rfl)); replace HB := Aside0.mk (hb); replace HI0 := Aside0.mk (hi); (try clear hb); (try clear hb2); (try clear hk); (try clear hi); (try clear ho0)) | ((with_reducible refine gate_callee (f := 49) rfl ?_); refine goesL_ (some 14) rfl rfl Try.func49 (by kernel_rfl) rfl #[.pointer (some ⟨g, 0, none⟩), .int .i64 25] rfl (by (try simp only [List.map_toArray, List.map_cons, List.map_nil]); first | done | rfl | (simp only [List.length_drop, List.length_take]; rfl)) ?_; (with_reducible refine (spec_l1Below.calls g s0_0 t327 t328 25 t329 t330 t331 w0 _ ?side1 ?side2 A6.out).mono ?_); (case side1 => repeat (first | (with_reducible first | exact HI0.out | apply IsS98.alloc | apply IsS98.drewN | apply IsS98.drew | apply IsS98.set_1 | apply IsS98.set_2) | exact HI0.out)); (case side2 => repeat (first | (with_reducible first | exact HB.out | apply below_alloc | apply pw_below_drewN | apply below_drew1 | refine below_set ?_ (IsS98.ge HI0.out)) | exact HB.out)); rintro e w42 ⟨rfl, hi, hb, hk⟩; refine ⟨_, rfl, ?_⟩; replace HO326 := Aside0.mk (Kd.S_mono (Kd.S_keep (IsS98.apartS (show IsS98 w0 _ g s0_0 t327 t328 from by exact isAll) (pS_ HO326.out) (by decide)) hk (fun _ h => h.2)) (fun _ h => h.1)); replace HK := Aside0.mk (KeepBut.trans (kA_ HK.out) hk (.inl rfl)); replace HB := Aside0.mk (hb); replace HI0 := Aside0.mk (hi); (try clear hb); (try clear hb2); (try clear hk); (try clear hi)))
   go_ret
   exact ⟨_, by first | rfl | (simp [errW_none, errW_some] <;> rfl) | (simp [*, errW_none, errW_some] <;> rfl), by (with_reducible repeat (first | apply Kd.S_alloc | apply Kd.S_drewN | apply Kd.S_drew)); exact HO326.out, by exact isAll, by exact belowAll, by exact (kA_ HK.out)⟩

  rw [if_pos c36] at H; have c36b0 : (t329 == 2) = true := beq_iff_eq.mpr c36; have c36b1 : (t329 != 2) = false := bne_eq_false_iff_eq.mpr c36; clear c36; simp only [Option.some.injEq, Prod.mk.injEq] at H; obtain ⟨rfl, rfl, rfl⟩ := H
  go_enter Try.func48, Try.ntmps48
  go_wp2_with (first | ((with_reducible refine gate_callee (f := 70) rfl ?_); refine goesL_ (some 9) rfl rfl Try.func70 (by kernel_rfl) rfl #[.slice A1 l1.length c1, .int .i64 6] rfl (by (try simp only [List.map_toArray, List.map_cons, List.map_nil]); first | done | rfl | (simp only [List.length_drop, List.length_take]; rfl)) ?_; (with_reducible refine (spec_l1Size.calls _ _ l1 6 t320 _ ?side1 ?side2 A3.out).mono ?_); (case side1 => exact Kd.C_keep 0 HR1.out (kA_ HK.out) hf1); (case side2 => exact HC1.out); rintro e w' ⟨rfl, ⟨nd, rfl⟩⟩; refine ⟨_, rfl, ?_⟩) | ((with_reducible refine gate_callee (f := 49) rfl ?_); refine goesL_ (some 10) rfl rfl Try.func49 (by kernel_rfl) rfl #[.pointer (some ⟨g, 0, none⟩), .int .i64 t320] rfl (by (try simp only [List.map_toArray, List.map_cons, List.map_nil]); first | done | rfl | (simp only [List.length_drop, List.length_take]; rfl)) ?_; (with_reducible refine (spec_l1Below.calls g s0_0 s0_1 s0_2 t320 t321 t322 t323 w0 _ ?side1 ?side2 A4.out).mono ?_); (case side1 => repeat (first | (with_reducible first | exact HI0.out | apply IsS98.alloc | apply IsS98.drewN | apply IsS98.drew | apply IsS98.set_1 | apply IsS98.set_2) | exact HI0.out)); (case side2 => repeat (first | (with_reducible first | exact HB.out | apply below_alloc | apply pw_below_drewN | apply below_drew1 | refine below_set ?_ (IsS98.ge HI0.out)) | exact HB.out)); rintro e w37 ⟨rfl, hi, hb, hk⟩; refine ⟨_, rfl, ?_⟩; replace HK := Aside0.mk (KeepBut.trans (kA_ HK.out) hk (.inl rfl)); replace HB := Aside0.mk (hb); replace HI0 := Aside0.mk (hi); (try clear hb); (try clear hb2); (try clear hk); (try clear hi)) | ((with_reducible refine gate_callee (f := 69) rfl ?_); refine goesL_ (some 12) rfl rfl Try.func69 (by kernel_rfl) rfl #[.pointer (some ⟨g, 0, none⟩), .int .i64 (wrap64 (2 + t321))] rfl (by (try simp only [List.map_toArray, List.map_cons, List.map_nil]); first | done | rfl | (simp only [List.length_drop, List.length_take]; rfl)) ?_; (with_reducible refine (spec_l7Draw.calls k g s0_0 t322 t323 (wrap64 (2 + t321)) t324 t327 t328 w0 _ ?side1 ?side2 A5.out).mono ?_); (case side1 => repeat (first | (with_reducible first | exact HI0.out | apply IsS98.alloc | apply IsS98.drewN | apply IsS98.drew | apply IsS98.set_1 | apply IsS98.set_2) | exact HI0.out)); (case side2 => repeat (first | (with_reducible first | exact HB.out | apply below_alloc | apply pw_below_drewN | apply below_drew1 | refine below_set ?_ (IsS98.ge HI0.out)) | exact HB.out)); rintro e w38 ⟨v325, rfl, ho0, hi, hb, hk⟩; refine ⟨_, rfl, ?_⟩; have HO326 := Aside0.mk (Kd.S_lower ho0 (keep_size (w := w) (g := g) (row := none) (kA_ HK.out))); replace HK := Aside0.mk (KeepBut.trans (kA_ HK.out) hk (.inl rfl)); replace HB := Aside0.mk (hb); replace HI0 := Aside0.mk (hi); (try clear hb); (try clear hb2); (try clear hk); (try clear hi); (try clear ho0)) | ((with_reducible refine gate_callee (f := 49) rfl ?_); refine goesL_ (some 14) rfl rfl Try.func49 (by kernel_rfl) rfl #[.pointer (some ⟨g, 0, none⟩), .int .i64 25] rfl (by (try simp only [List.map_toArray, List.map_cons, List.map_nil]); first | done | rfl | (simp only [List.length_drop, List.length_take]; rfl)) ?_; (with_reducible refine (spec_l1Below.calls g s0_0 t327 t328 25 t329 t330 t331 w0 _ ?side1 ?side2 A6.out).mono ?_); (case side1 => repeat (first | (with_reducible first | exact HI0.out | apply IsS98.alloc | apply IsS98.drewN | apply IsS98.drew | apply IsS98.set_1 | apply IsS98.set_2) | exact HI0.out)); (case side2 => repeat (first | (with_reducible first | exact HB.out | apply below_alloc | apply pw_below_drewN | apply below_drew1 | refine below_set ?_ (IsS98.ge HI0.out)) | exact HB.out)); rintro e w39 ⟨rfl, hi, hb, hk⟩; refine ⟨_, rfl, ?_⟩; replace HO326 := Aside0.mk (Kd.S_mono (Kd.S_keep (IsS98.apartS (show IsS98 w0 _ g s0_0 t327 t328 from by exact isAll) (pS_ HO326.out) (by decide)) hk (fun _ h => h.2)) (fun _ h => h.1)); replace HK := Aside0.mk (KeepBut.trans (kA_ HK.out) hk (.inl rfl)); replace HB := Aside0.mk (hb); replace HI0 := Aside0.mk (hi); (try clear hb); (try clear hb2); (try clear hk); (try clear hi)))
  go_ret
  exact ⟨_, by first | rfl | (simp [errW_none, errW_some] <;> rfl) | (simp [*, errW_none, errW_some] <;> rfl), by first | exact Kd.S_nil _ _ _ _ _ | exact Kd.N_nil _ _ _ _ _ | exact Kd.V_nil _ _ _ _ _ | exact Kd.Q_nil _ _ _ _ _ | exact Kd.R_nil _ _ _ _ _, by exact isAll, by exact belowAll, by exact (kA_ HK.out)⟩
 rw [if_pos c7] at H; have c7b0 : (t329 == 0) = true := beq_iff_eq.mpr c7; have c7b1 : (t329 != 0) = false := bne_eq_false_iff_eq.mpr c7; clear c7
 by_cases c8 : 0 < (t324.length : Int)
 case neg =>
  rw [if_neg c8] at H
  exact absurd H (by simp)
 rw [if_pos c8] at H; have c8b0 : decide (0 < (t324.length : Int)) = true := decide_eq_true c8
 have c8b1 : decide (0 < t324.length) = true := decide_eq_true (by omega)
 clear c8; replace H := Option.bind_eq_some_iff.mp H; obtain ⟨⟨t333, t334, t335⟩, A90, H⟩ := H
 replace H : ((spec_l1Below.f s0_0 t334 t335 (wrap64 ((t324.length : Int) + 1))).bind fun bt336 => (if ((rd_T43 t324 0).f2).length < 8796093022208 then (some ((t324.set (0 : Int).toNat (⟨(rd_T43 t324 0).f0, (rd_T43 t324 0).f1, (((rd_T43 t324 0).f2) ++ [(⟨t333, bt336.1⟩ : S45)])⟩ : S43)), bt336.2.1, bt336.2.2)) else (none))) = some (r1, r2, r3) := H
 have A9 := Aside0.mk A90; clear A90; replace H := Option.bind_eq_some_iff.mp H; obtain ⟨⟨t336, t337, t338⟩, A100, H⟩ := H
 replace H : (if ((rd_T43 t324 0).f2).length < 8796093022208 then (some ((t324.set (0 : Int).toNat (⟨(rd_T43 t324 0).f0, (rd_T43 t324 0).f1, (((rd_T43 t324 0).f2) ++ [(⟨t333, t336⟩ : S45)])⟩ : S43)), t337, t338)) else (none)) = some (r1, r2, r3) := H
 have A10 := Aside0.mk A100; clear A100
 by_cases c11 : ((rd_T43 t324 0).f2).length < 8796093022208
 case neg =>
  rw [if_neg c11] at H
  exact absurd H (by simp)
 rw [if_pos c11] at H; have LMc11 := Aside0.mk c11; clear c11; obtain ⟨y339, hy339⟩ : ∃ y_ : List (S45), y_ = (((rd_T43 t324 0).f2) ++ [(⟨t333, t336⟩ : S45)]) := ⟨_, rfl⟩
 replace H : (some ((t324.set (0 : Int).toNat (⟨(rd_T43 t324 0).f0, (rd_T43 t324 0).f1, y339⟩ : S43)), t337, t338)) = some (r1, r2, r3) := by first | (rw [hy339]; with_reducible exact H) | (have H2_ := (Option.bind_some _ _).symm.trans H; rw [hy339]; with_reducible exact H2_) | (have H2_ := (Option.bind_some _ _).symm.trans H; with_reducible exact H2_) | with_reducible exact H | (rw [hy339]; exact H) | exact H
 have Ny339 := Aside0.mk hy339; clear hy339; obtain ⟨y342, hy342⟩ : ∃ y_ : List (S43), y_ = (t324.set (0 : Int).toNat (⟨(rd_T43 t324 0).f0, (rd_T43 t324 0).f1, y339⟩ : S43)) := ⟨_, rfl⟩
 replace H : (some (y342, t337, t338)) = some (r1, r2, r3) := by first | (rw [hy342]; with_reducible exact H) | (have H2_ := (Option.bind_some _ _).symm.trans H; rw [hy342]; with_reducible exact H2_) | (have H2_ := (Option.bind_some _ _).symm.trans H; with_reducible exact H2_) | with_reducible exact H | (rw [hy342]; exact H) | exact H
 have Ny342 := Aside0.mk hy342; clear hy342; simp only [Option.some.injEq, Prod.mk.injEq] at H; obtain ⟨rfl, rfl, rfl⟩ := H
 go_enter Try.func48, Try.ntmps48
 try go_wp2_with (first | ((with_reducible refine gate_callee (f := 70) rfl ?_); refine goesL_ (some 9) rfl rfl Try.func70 (by kernel_rfl) rfl #[.slice A1 l1.length c1, .int .i64 6] rfl (by (try simp only [List.map_toArray, List.map_cons, List.map_nil]); first | done | rfl | (simp only [List.length_drop, List.length_take]; rfl)) ?_; (with_reducible refine (spec_l1Size.calls _ _ l1 6 t320 _ ?side1 ?side2 A3.out).mono ?_); (case side1 => exact Kd.C_keep 0 HR1.out (kA_ HK.out) hf1); (case side2 => exact HC1.out); rintro e w' ⟨rfl, ⟨nd, rfl⟩⟩; refine ⟨_, rfl, ?_⟩; (try (rw [drewN_self w]; generalize hq_ : World.drewN w _ = wd_; have n0_ : Aside0 (IsS98 w0 wd_ g s0_0 s0_1 s0_2) := ⟨by rw [← hq_]; exact isAll⟩; have n1_ : Aside0 (KeepBut w wd_ g none) := ⟨by rw [← hq_]; exact (kA_ HK.out)⟩; have n2_ : Aside0 (Below w0.heap.size w0 wd_) := ⟨by rw [← hq_]; exact belowAll⟩; clear HI0 HK HB hq_; have HI0 := n0_; have HK := n1_; have HB := n2_; clear n0_ n1_ n2_))) | ((with_reducible refine gate_callee (f := 49) rfl ?_); refine goesL_ (some 10) rfl rfl Try.func49 (by kernel_rfl) rfl #[.pointer (some ⟨g, 0, none⟩), .int .i64 t320] rfl (by (try simp only [List.map_toArray, List.map_cons, List.map_nil]); first | done | rfl | (simp only [List.length_drop, List.length_take]; rfl)) ?_; (with_reducible refine (spec_l1Below.calls g s0_0 s0_1 s0_2 t320 t321 t322 t323 w0 _ ?side1 ?side2 A4.out).mono ?_); (case side1 => repeat (first | (with_reducible first | exact HI0.out | apply IsS98.alloc | apply IsS98.drewN | apply IsS98.drew | apply IsS98.set_1 | apply IsS98.set_2) | exact HI0.out)); (case side2 => repeat (first | (with_reducible first | exact HB.out | apply below_alloc | apply pw_below_drewN | apply below_drew1 | refine below_set ?_ (IsS98.ge HI0.out)) | exact HB.out)); rintro e w13 ⟨rfl, hi, hb, hk⟩; refine ⟨_, rfl, ?_⟩; replace HK := Aside0.mk (KeepBut.trans (kA_ HK.out) hk (.inl rfl)); replace HB := Aside0.mk (hb); replace HI0 := Aside0.mk (hi); (try clear hb); (try clear hb2); (try clear hk); (try clear hi)) | ((with_reducible refine gate_callee (f := 69) rfl ?_); refine goesL_ (some 12) rfl rfl Try.func69 (by kernel_rfl) rfl #[.pointer (some ⟨g, 0, none⟩), .int .i64 (wrap64 (2 + t321))] rfl (by (try simp only [List.map_toArray, List.map_cons, List.map_nil]); first | done | rfl | (simp only [List.length_drop, List.length_take]; rfl)) ?_; (with_reducible refine (spec_l7Draw.calls k g s0_0 t322 t323 (wrap64 (2 + t321)) t324 t327 t328 w0 _ ?side1 ?side2 A5.out).mono ?_); (case side1 => repeat (first | (with_reducible first | exact HI0.out | apply IsS98.alloc | apply IsS98.drewN | apply IsS98.drew | apply IsS98.set_1 | apply IsS98.set_2) | exact HI0.out)); (case side2 => repeat (first | (with_reducible first | exact HB.out | apply below_alloc | apply pw_below_drewN | apply below_drew1 | refine below_set ?_ (IsS98.ge HI0.out)) | exact HB.out)); rintro e w14 ⟨v325, rfl, ho0, hi, hb, hk⟩; refine ⟨_, rfl, ?_⟩; have HO326 := Aside0.mk (Kd.S_lower ho0 (keep_size (w := w) (g := g) (row := none) (kA_ HK.out))); replace HK := Aside0.mk (KeepBut.trans (kA_ HK.out) hk (.inl rfl)); replace HB := Aside0.mk (hb); replace HI0 := Aside0.mk (hi); (try clear hb); (try clear hb2); (try clear hk); (try clear hi); (try clear ho0)) | ((with_reducible refine gate_callee (f := 49) rfl ?_); refine goesL_ (some 14) rfl rfl Try.func49 (by kernel_rfl) rfl #[.pointer (some ⟨g, 0, none⟩), .int .i64 25] rfl (by (try simp only [List.map_toArray, List.map_cons, List.map_nil]); first | done | rfl | (simp only [List.length_drop, List.length_take]; rfl)) ?_; (with_reducible refine (spec_l1Below.calls g s0_0 t327 t328 25 t329 t330 t331 w0 _ ?side1 ?side2 A6.out).mono ?_); (case side1 => repeat (first | (with_reducible first | exact HI0.out | apply IsS98.alloc | apply IsS98.drewN | apply IsS98.drew | apply IsS98.set_1 | apply IsS98.set_2) | exact HI0.out)); (case side2 => repeat (first | (with_reducible first | exact HB.out | apply below_alloc | apply pw_below_drewN | apply below_drew1 | refine below_set ?_ (IsS98.ge HI0.out)) | exact HB.out)); rintro e w15 ⟨rfl, hi, hb, hk⟩; refine ⟨_, rfl, ?_⟩; replace HO326 := Aside0.mk (Kd.S_mono (Kd.S_keep (IsS98.apartS (show IsS98 w0 _ g s0_0 t327 t328 from by exact isAll) (pS_ HO326.out) (by decide)) hk (fun _ h => h.2)) (fun _ h => h.1)); replace HK := Aside0.mk (KeepBut.trans (kA_ HK.out) hk (.inl rfl)); replace HB := Aside0.mk (hb); replace HI0 := Aside0.mk (hi); (try clear hb); (try clear hb2); (try clear hk); (try clear hi)))
 have n0_ := Aside0.mk (Kd.S_drew HO326.out); have n1_ := Aside0.mk (IsS98.drew HI0.out); have n2_ := Aside0.mk (keep_drew HK.out); have n3_ := Aside0.mk (below_drew1 HB.out); clear HO326 HI0 HK HB; have HO326 := n0_; have HI0 := n1_; have HK := n2_; have HB := n3_; clear n0_ n1_ n2_ n3_; obtain ⟨Ao17, co17, eo17⟩ := Kd.S_slice HO326.out
 (first | subst eo17 | (injection eo17 with f1_ f2_ f3_; have f4_ := f1_.symm; have f5_ := f3_.symm; clear f1_ f2_ f3_; subst f4_; subst f5_))
 have p332 : 0 ≤ (0 : Int) := (by omega)
 have q332 : 0 < (t324.length : Int) := of_decide_eq_true (by first | (with_reducible assumption) | assumption)
 obtain ⟨ad332, A332_2, c332_2, e332, hx332_0, hx332_1, hx332_2, hl332_2, hi332_2⟩ := at_T43 (Kd.S_reads' HO326.out).2.2 0 p332 q332
 cases e332
 obtain ⟨ce332, hce332, hMe332, hcc332⟩ := Kd.S_get HO326.out z43 0 p332 (by first | exact q332 | exact of_decide_eq_true (by first | (with_reducible assumption) | assumption) | (have e_ := (Kd.S_reads' HO326.out).1; omega))
 obtain ⟨ve332_2, rfl, ge332_2⟩ := k43_openM hMe332; have hv332_2 := hcc332 2 _ rfl
 rw [add_field _ _ 2 (by omega)] at hv332_2
 replace hv332_2 := Option.some.inj (hv332_2.symm.trans hx332_2); rw [hv332_2] at ge332_2; have HL332_2 := Aside0.mk (show Kd.R k45 45 _ _ _ _ ((rd_T43 t324 0).f2) from ge332_2); clear hv332_2 ge332_2; have HX332_2 := Aside0.mk hx332_2; clear hcc332 hce332
 have qi332 : (0 < t324.length) = True := eq_true (by omega)
 (try rw [show ((0 : Int)).toNat = 0 from rfl] at hx332_0)
 (try rw [show 0 * 3 = 0 from rfl] at hx332_0)
 (try rw [Addr.add_zero'] at hx332_0)
 (try rw [show ((0 : Int)).toNat = 0 from rfl] at hx332_1)
 (try rw [show 0 * 3 = 0 from rfl] at hx332_1)
 (try rw [Addr.add_zero'] at hx332_1)
 (try rw [show ((0 : Int)).toNat = 0 from rfl] at hx332_2)
 (try rw [show 0 * 3 = 0 from rfl] at hx332_2)
 (try rw [Addr.add_zero'] at hx332_2)
 have HR332_2 := Aside0.mk hi332_2; have HC332_2 := Aside0.mk hl332_2; clear hi332_2 hl332_2; replace p332 := eq_true p332; replace q332 := eq_true q332
 refine start_ (n := 18) (S := fun w' => w'.cell? ad332 = some (.bool ((rd_T43 t324 0).f0)) ∧ w'.cell? ⟨ad332.block, ad332.off + 1, none⟩ = some (.bool ((rd_T43 t324 0).f1)) ∧ w'.cell? ⟨ad332.block, ad332.off + 2, none⟩ = some (.slice A332_2 ((rd_T43 t324 0).f2).length c332_2)) (ds := [17]) #[false, false, false, false, false, false, false, false, false, false, false, false, false, false, false, false, false, false] (by kernel_rfl) rfl rfl ⟨hx332_0, hx332_1, hx332_2⟩ (fun hHeld => ?_); refine with_tabW spec_l7DrawAny.tab4 spec_l7DrawAny.bits4 (fun HT_ HW_ => ?_)
 generalize w15.drew = w16 at HO326 HI0 HK HB HL332_2 HR332_2 HX332_2 hx332_0 hx332_1 hx332_2 hHeld ⊢
 refine pure_ (i := 0) (N := some 17) (v := ?_) (a' := ?_) #[true, false, false, false, false, false, false, false, false, false, false, false, false, false, false, false, false, false] rfl rfl (any_of HT_.out (by kernel_rfl)) (fun _ _ _ h => h) (Or.inl ⟨by rfl, ?_⟩) ?_ ?_
 rotate_left
 ·intro w'
  go_simp
  with_reducible rfl
 rotate_left
 ·simp only [Act.put, List.setIfInBounds_toArray, List.set_cons_zero, List.set_cons_succ, i64_w, i32_w]
  rfl
 refine pure_ (i := 1) (N := some 18) (v := ?_) (a' := ?_) #[true, true, false, false, false, false, false, false, false, false, false, false, false, false, false, false, false, false] rfl rfl (any_of HT_.out (by kernel_rfl)) (fun _ _ _ h => h) (Or.inl ⟨by rfl, ?_⟩) ?_ ?_
 rotate_left
 ·intro w'
  go_simp
  with_reducible rfl
 rotate_left
 ·simp only [Act.put, List.setIfInBounds_toArray, List.set_cons_zero, List.set_cons_succ, i64_w, i32_w]
  rfl
 refine pure_ (i := 2) (N := some 19) (v := ?_) (a' := ?_) #[true, true, true, false, false, false, false, false, false, false, false, false, false, false, false, false, false, false] rfl rfl (any_of HT_.out (by kernel_rfl)) (fun _ _ _ h => h) (Or.inl ⟨by rfl, ?_⟩) ?_ ?_
 rotate_left
 ·intro w'
  go_simp
  with_reducible rfl
 rotate_left
 ·simp only [Act.put, List.setIfInBounds_toArray, List.set_cons_zero, List.set_cons_succ, i64_w, i32_w]
  rfl
 refine pure_ (i := 3) (N := some 20) (v := ?_) (a' := ?_) #[true, true, true, true, false, false, false, false, false, false, false, false, false, false, false, false, false, false] rfl rfl (any_of HT_.out (by kernel_rfl)) (fun _ _ _ h => h) (Or.inl ⟨by rfl, ?_⟩) ?_ ?_
 rotate_left
 ·intro w'
  go_simp
  with_reducible rfl
 rotate_left
 ·simp only [Act.put, List.setIfInBounds_toArray, List.set_cons_zero, List.set_cons_succ, i64_w, i32_w]
  rfl
 refine pure_ (i := 5) (N := some 22) (v := ?_) (a' := ?_) #[true, true, true, true, false, true, false, false, false, false, false, false, false, false, false, false, false, false] rfl rfl (any_of HT_.out (by kernel_rfl)) (fun _ _ _ h => h) (Or.inl ⟨by rfl, ?_⟩) ?_ ?_
 rotate_left
 ·intro w'
  go_simp
  with_reducible rfl
 rotate_left
 ·simp only [Act.put, List.setIfInBounds_toArray, List.set_cons_zero, List.set_cons_succ, i64_w, i32_w]
  rfl
 refine pure_ (i := 7) (N := some 24) (v := ?_) (a' := ?_) #[true, true, true, true, false, true, false, true, false, false, false, false, false, false, false, false, false, false] rfl rfl (any_of HT_.out (by kernel_rfl)) (fun _ _ _ h => h) (Or.inl ⟨by rfl, ?_⟩) ?_ ?_
 rotate_left
 ·intro w'
  go_simp
  with_reducible rfl
 rotate_left
 ·simp only [Act.put, List.setIfInBounds_toArray, List.set_cons_zero, List.set_cons_succ, i64_w, i32_w]
  rfl
 refine pure_ (i := 8) (N := some 25) (v := ?_) (a' := ?_) #[true, true, true, true, false, true, false, true, true, false, false, false, false, false, false, false, false, false] rfl rfl (any_of HT_.out (by kernel_rfl)) (fun _ _ _ h => h) (Or.inl ⟨by rfl, ?_⟩) ?_ ?_
 rotate_left
 ·intro w'
  go_simp
  with_reducible rfl
 rotate_left
 ·simp only [Act.put, List.setIfInBounds_toArray, List.set_cons_zero, List.set_cons_succ, i64_w, i32_w]
  rfl
 refine pure_ (i := 9) (N := some 26) (v := ?_) (a' := ?_) #[true, true, true, true, false, true, false, true, true, true, false, false, false, false, false, false, false, false] rfl rfl (any_of HT_.out (by kernel_rfl)) (fun _ _ _ h => h) (Or.inl ⟨by rfl, ?_⟩) ?_ ?_
 rotate_left
 ·intro w'
  go_simp
  with_reducible rfl
 rotate_left
 ·simp only [Act.put, List.setIfInBounds_toArray, List.set_cons_zero, List.set_cons_succ, i64_w, i32_w]
  rfl
 refine pure_ (i := 10) (N := some 27) (v := ?_) (a' := ?_) #[true, true, true, true, false, true, false, true, true, true, true, false, false, false, false, false, false, false] rfl rfl (any_of HT_.out (by kernel_rfl)) (fun _ _ _ h => h) (Or.inl ⟨by rfl, ?_⟩) ?_ ?_
 rotate_left
 ·intro w'
  go_simp
  with_reducible rfl
 rotate_left
 ·simp only [Act.put, List.setIfInBounds_toArray, List.set_cons_zero, List.set_cons_succ, i64_w, i32_w]
  rfl
 refine take_ (i := 4) (N := some 21) (v := ?_) (a' := ?_) #[true, true, true, true, true, true, false, true, true, true, true, false, false, false, false, false, false, false] rfl rfl (take_ofW HT_.out HW_.out (by kernel_rfl)) (fun _ _ _ h => h) (Or.inl ⟨by rfl, ?_⟩) hHeld ?_ ?_
 rotate_left
 ·rintro w' ⟨s0, s1, s2⟩
  go_simp
  with_reducible rfl
 rotate_left
 ·simp only [Act.put, List.setIfInBounds_toArray, List.set_cons_zero, List.set_cons_succ, i64_w, i32_w]
  rfl
 refine one_ (i := 6) (N := some 23) #[true, true, true, true, true, true, true, true, true, true, true, false, false, false, false, false, false, false] rfl rfl (one_of HT_.out (by kernel_rfl)) (by decide) (fun K hK => ?_)
 refine goes_ Try.func49 (by kernel_rfl) rfl #[.pointer (some ⟨g, 0, none⟩), .int .i64 9] (by rfl) rfl rfl (by (try simp only [List.map_toArray, List.map_cons, List.map_nil]); first | done | rfl | (simp only [List.length_drop, List.length_take]; rfl)) ?_
 with_reducible refine (spec_l1Below.calls g s0_0 t330 t331 9 t333 t334 t335 w0 _ ?side1 ?side2 A9.out).mono ?_
 (case side1 => repeat (first | (with_reducible first | exact HI0.out | apply IsS98.alloc | apply IsS98.drewN | apply IsS98.drew | apply IsS98.set_1 | apply IsS98.set_2) | exact HI0.out))
 (case side2 => repeat (first | (with_reducible first | exact HB.out | apply below_alloc | apply pw_below_drewN | apply below_drew1 | refine below_set ?_ (IsS98.ge HI0.out)) | exact HB.out))
 rintro e w18 ⟨rfl, hi, hb, hk⟩
 have HS0_ := keep_cell hk (hHeld.1) (by first | (rw [add_block]; exact Kd.own_blk (IsS98.own_neS HI0.out HO326.out (by decide))) | (show (Addr.add _ _).block ≠ _; rw [add_block]; exact Kd.own_blk (IsS98.own_neS HI0.out HO326.out (by decide))) | exact Kd.own_blk (IsS98.own_neS HI0.out HO326.out (by decide)) | (have h_ := Kd.own_blk (IsS98.own_neS HI0.out HO326.out (by decide)); exact h_))
 have HS1_ := keep_cell hk (hHeld.2.1) (by first | (rw [add_block]; exact Kd.own_blk (IsS98.own_neS HI0.out HO326.out (by decide))) | (show (Addr.add _ _).block ≠ _; rw [add_block]; exact Kd.own_blk (IsS98.own_neS HI0.out HO326.out (by decide))) | exact Kd.own_blk (IsS98.own_neS HI0.out HO326.out (by decide)) | (have h_ := Kd.own_blk (IsS98.own_neS HI0.out HO326.out (by decide)); exact h_))
 have HS2_ := keep_cell hk (hHeld.2.2) (by first | (rw [add_block]; exact Kd.own_blk (IsS98.own_neS HI0.out HO326.out (by decide))) | (show (Addr.add _ _).block ≠ _; rw [add_block]; exact Kd.own_blk (IsS98.own_neS HI0.out HO326.out (by decide))) | exact Kd.own_blk (IsS98.own_neS HI0.out HO326.out (by decide)) | (have h_ := Kd.own_blk (IsS98.own_neS HI0.out HO326.out (by decide)); exact h_))
 refine ⟨_, rfl, ?_⟩
 have n0_ := Aside0.mk (Kd.S_mono (Kd.S_keep (IsS98.apartS (show IsS98 w0 _ g s0_0 t330 t331 from by exact isAll) (pS_ HO326.out) (by decide)) hk (fun _ h => h.2)) (fun _ h => h.1))
 have n1_ := Aside0.mk (Kd.R_mono (Kd.R_keep (IsS98.apart (show IsS98 w0 _ g s0_0 t330 t331 from by exact isAll) (pR_ HL332_2.out) (by decide)) hk (fun _ h => h.2)) (fun _ h => h.1))
 have n2_ := Aside0.mk (keep_cell hk HX332_2.out (by first | (rw [add_block]; exact Kd.own_blk (IsS98.own_neS HI0.out HO326.out (by decide))) | (show (Addr.add _ _).block ≠ _; rw [add_block]; exact Kd.own_blk (IsS98.own_neS HI0.out HO326.out (by decide))) | exact Kd.own_blk (IsS98.own_neS HI0.out HO326.out (by decide)) | (dsimp only; exact Kd.own_blk (IsS98.own_neS HI0.out HO326.out (by decide)))))
 have n3_ := Aside0.mk (KeepBut.trans (kA_ HK.out) hk (.inl rfl))
 have n4_ := Aside0.mk (hb); have n5_ := Aside0.mk (hi); clear HO326 HL332_2 HX332_2 HK HB HI0; have HO326 := n0_; have HL332_2 := n1_; have HX332_2 := n2_; have HK := n3_; have HB := n4_; have HI0 := n5_; clear n0_ n1_ n2_ n3_ n4_ n5_; (try clear hb); (try clear hb2); (try clear hk); (try clear hi)
 refine hK.out _ _ ⟨HS0_, HS1_, HS2_⟩ (fun hHeld => ?_)
 clear hK K
 refine norm_ (a' := ?_) ?_ ?_
 rotate_left
 ·show Act.put _ (some 23) _ = _
  simp only [Act.put, List.setIfInBounds_toArray, List.set_cons_zero, List.set_cons_succ, i64_w, i32_w]
  rfl
 refine one_ (i := 11) (N := some 28) #[true, true, true, true, true, true, true, true, true, true, true, true, false, false, false, false, false, false] rfl rfl (one_of HT_.out (by kernel_rfl)) (by decide) (fun K hK => ?_)
 refine goes_ Try.func49 (by kernel_rfl) rfl #[.pointer (some ⟨g, 0, none⟩), .int .i64 (wrap64 ((t324.length : Int) + 1))] (by rfl) rfl rfl (by (try simp only [List.map_toArray, List.map_cons, List.map_nil]); first | done | rfl | (simp only [List.length_drop, List.length_take]; rfl)) ?_
 with_reducible refine (spec_l1Below.calls g s0_0 t334 t335 (wrap64 ((t324.length : Int) + 1)) t336 t337 t338 w0 _ ?side1 ?side2 A10.out).mono ?_
 (case side1 => repeat (first | (with_reducible first | exact HI0.out | apply IsS98.alloc | apply IsS98.drewN | apply IsS98.drew | apply IsS98.set_1 | apply IsS98.set_2) | exact HI0.out))
 (case side2 => repeat (first | (with_reducible first | exact HB.out | apply below_alloc | apply pw_below_drewN | apply below_drew1 | refine below_set ?_ (IsS98.ge HI0.out)) | exact HB.out))
 rintro e w19 ⟨rfl, hi, hb, hk⟩
 have HS0_ := keep_cell hk (hHeld.1) (by first | (rw [add_block]; exact Kd.own_blk (IsS98.own_neS HI0.out HO326.out (by decide))) | (show (Addr.add _ _).block ≠ _; rw [add_block]; exact Kd.own_blk (IsS98.own_neS HI0.out HO326.out (by decide))) | exact Kd.own_blk (IsS98.own_neS HI0.out HO326.out (by decide)) | (have h_ := Kd.own_blk (IsS98.own_neS HI0.out HO326.out (by decide)); exact h_))
 have HS1_ := keep_cell hk (hHeld.2.1) (by first | (rw [add_block]; exact Kd.own_blk (IsS98.own_neS HI0.out HO326.out (by decide))) | (show (Addr.add _ _).block ≠ _; rw [add_block]; exact Kd.own_blk (IsS98.own_neS HI0.out HO326.out (by decide))) | exact Kd.own_blk (IsS98.own_neS HI0.out HO326.out (by decide)) | (have h_ := Kd.own_blk (IsS98.own_neS HI0.out HO326.out (by decide)); exact h_))
 have HS2_ := keep_cell hk (hHeld.2.2) (by first | (rw [add_block]; exact Kd.own_blk (IsS98.own_neS HI0.out HO326.out (by decide))) | (show (Addr.add _ _).block ≠ _; rw [add_block]; exact Kd.own_blk (IsS98.own_neS HI0.out HO326.out (by decide))) | exact Kd.own_blk (IsS98.own_neS HI0.out HO326.out (by decide)) | (have h_ := Kd.own_blk (IsS98.own_neS HI0.out HO326.out (by decide)); exact h_))
 refine ⟨_, rfl, ?_⟩
 have n0_ := Aside0.mk (Kd.S_mono (Kd.S_keep (IsS98.apartS (show IsS98 w0 _ g s0_0 t334 t335 from by exact isAll) (pS_ HO326.out) (by decide)) hk (fun _ h => h.2)) (fun _ h => h.1))
 have n1_ := Aside0.mk (Kd.R_mono (Kd.R_keep (IsS98.apart (show IsS98 w0 _ g s0_0 t334 t335 from by exact isAll) (pR_ HL332_2.out) (by decide)) hk (fun _ h => h.2)) (fun _ h => h.1))
 have n2_ := Aside0.mk (keep_cell hk HX332_2.out (by first | (rw [add_block]; exact Kd.own_blk (IsS98.own_neS HI0.out HO326.out (by decide))) | (show (Addr.add _ _).block ≠ _; rw [add_block]; exact Kd.own_blk (IsS98.own_neS HI0.out HO326.out (by decide))) | exact Kd.own_blk (IsS98.own_neS HI0.out HO326.out (by decide)) | (dsimp only; exact Kd.own_blk (IsS98.own_neS HI0.out HO326.out (by decide)))))
 have n3_ := Aside0.mk (KeepBut.trans (kA_ HK.out) hk (.inl rfl))
 have n4_ := Aside0.mk (hb); have n5_ := Aside0.mk (hi); clear HO326 HL332_2 HX332_2 HK HB HI0; have HO326 := n0_; have HL332_2 := n1_; have HX332_2 := n2_; have HK := n3_; have HB := n4_; have HI0 := n5_; clear n0_ n1_ n2_ n3_ n4_ n5_; (try clear hb); (try clear hb2); (try clear hk); (try clear hi)
 obtain ⟨go20, co20, eo20, gb20, gl20, cl20, HG20⟩ := Kd.S_form HO326.out (by have h_ : (0 : Int) < ((t324.length : Int) : Int) := of_decide_eq_true (by first | (with_reducible assumption) | assumption); have h2_ : 0 ≤ (0 : Int) := (by omega); omega)
 (first | cases eo20 | (injection eo20 with ea_ en_ ec_; (first | subst ea_ | (injection ea_ with ea_; subst ea_)); subst ec_; clear en_))
 have GB20 := Aside0.mk gb20; have GG20 := Aside0.mk HG20; clear gb20 gl20 HG20
 (first | simp only [add_plain] at hx332_0 | skip)
 (first | simp only [add_plain] at hx332_1 | skip)
 (first | simp only [add_plain] at hx332_2 | skip)
 obtain ⟨oki20, ce20, hcl20, hM20, hcc20, _, _, hH20⟩ := Kd.S_elem HO326.out z43 (0 : Int) (by omega) (by have h_ : (0 : Int) < ((t324.length : Int) : Int) := of_decide_eq_true (by first | (with_reducible assumption) | assumption); first | exact h_ | (have e_ := (Kd.S_reads' HO326.out).1; omega) | simpa using h_)
 obtain ⟨ve20_2, rfl, ge20_2⟩ := k43_openM hM20; have hv20 := hcc20 2 _ rfl; have hX20 := HX332_2.out
 (try simp only [add_plain] at hX20)
 (try simp only [Nat.add_zero] at hv20)
 replace hv20 := Option.some.inj (hv20.symm.trans hX20); subst hv20; clear hX20 hcc20 hcl20; have UU20 := Aside0.mk (show Kd.R k45 45 _ w.heap.size oki20 (.slice A332_2 ((rd_T43 t324 0).f2).length c332_2) ((rd_T43 t324 0).f2) from ge20_2); have HH20 := Aside0.mk hH20; have HN20 := Aside0.mk (Kd.S_reads' HO326.out).1; clear hH20 ge20_2
 refine hK.out _ _ ⟨HS0_, HS1_, HS2_⟩ (fun hHeld => ?_)
 clear hK K
 refine norm_ (a' := ?_) ?_ ?_
 rotate_left
 ·show Act.put _ (some 28) _ = _
  simp only [Act.put, List.setIfInBounds_toArray, List.set_cons_zero, List.set_cons_succ, i64_w, i32_w]
  rfl
 refine pure_ (i := 12) (N := some 29) (v := ?_) (a' := ?_) #[true, true, true, true, true, true, true, true, true, true, true, true, true, false, false, false, false, false] rfl rfl (any_of HT_.out (by kernel_rfl)) (fun _ _ _ h => h) (Or.inl ⟨by rfl, ?_⟩) ?_ ?_
 rotate_left
 ·intro w'
  go_simp
  with_reducible rfl
 rotate_left
 ·simp only [Act.put, List.setIfInBounds_toArray, List.set_cons_zero, List.set_cons_succ, i64_w, i32_w]
  rfl
 refine one_ (i := 13) (N := some 30) #[true, true, true, true, true, true, true, true, true, true, true, true, true, true, false, false, false, false] rfl rfl (one_of HT_.out (by kernel_rfl)) (by decide) (fun K hK => ?_)
 refine value_ (w1 := ?_) (v := ?_) (by rfl) rfl ?_ ?_
 rotate_left 2
 ·go_simp
  constructor
  ·rfl
  ·rfl
 refine hK.out _ _ ⟨(World.cell?_alloc_lt _ _ _ (World.block_lt_of_cell? _ _ (hHeld.1))).trans (hHeld.1), (World.cell?_alloc_lt _ _ _ (World.block_lt_of_cell? _ _ (hHeld.2.1))).trans (hHeld.2.1), (World.cell?_alloc_lt _ _ _ (World.block_lt_of_cell? _ _ (hHeld.2.2))).trans (hHeld.2.2)⟩ (fun hHeld => ?_)
 clear hK K
 refine norm_ (a' := ?_) ?_ ?_
 rotate_left
 ·show Act.put _ (some 30) _ = _
  simp only [Act.put, List.setIfInBounds_toArray, List.set_cons_zero, List.set_cons_succ, i64_w, i32_w]
  rfl
 refine one_ (i := 14) (N := some 31) #[true, true, true, true, true, true, true, true, true, true, true, true, true, true, true, false, false, false] rfl rfl (one_of HT_.out (by kernel_rfl)) (by decide) (fun K hK => ?_)
 refine Kd.R_append_step k45 w.heap.size (by rfl) (.tmp 21) (.tmp 30) 41 45 (.agg #[(.int .i64 0), (.int .i64 0)]) 16 rfl Try.underlying41 info45 rfl (by decide) (by omega) (.slice A332_2 ((rd_T43 t324 0).f2).length c332_2) ((rd_T43 t324 0).f2) (⟨t333, t336⟩ : S45) [.int .i64 t333, .int .i64 t336] (fun k_ => oki20 k_ ∨ ((fun _ => True)) k_ ∧ w19.heap.size ≤ k_) (fun _ => False) rfl rfl ?aP (fun _ hk => hk.elim) ?aF ?aO (Below.refl _ _) ?aS ?aL ?_
 (case aP => exact k45_mkM _ _ _ (⟨t333, t336⟩ : S45))
 (case aF => exact (fun k_ hk => .inr ⟨trivial, hk⟩))
 (case aO => exact (by (with_reducible repeat (first | apply Kd.R_alloc | apply Kd.R_drewN | apply Kd.R_drew)); exact Kd.R_mono UU20.out (fun _ hk => .inl hk)))
 (case aS => exact (keep_size (w := w) (g := g) (row := none) (kA_ HK.out)))
 (case aL => have := LMc11.out; omega)
 intro v340 w21 ho hb hg hat
 (first | have HS0_ := cell_grown hg (hHeld.1) (by first | (rw [add_block]; exact (fun e_ => ((HL332_2.out.1 _ e_.symm).2) rfl)) | (show some (Addr.add _ _).block ≠ _; rw [add_block]; exact (fun e_ => ((HL332_2.out.1 _ e_.symm).2) rfl)) | exact (fun e_ => ((HL332_2.out.1 _ e_.symm).2) rfl)) | have HS0_ := cell_grown hg (cell_unalloc (hHeld.1) (by first | (rw [add_block]; exact Kd.S_lt HO326.out _ rfl) | (show (Addr.add _ _).block < _; rw [add_block]; exact Kd.S_lt HO326.out _ rfl) | exact Kd.S_lt HO326.out _ rfl)) (by first | (rw [add_block]; exact (fun e_ => ((HL332_2.out.1 _ e_.symm).2) rfl)) | (show some (Addr.add _ _).block ≠ _; rw [add_block]; exact (fun e_ => ((HL332_2.out.1 _ e_.symm).2) rfl)) | exact (fun e_ => ((HL332_2.out.1 _ e_.symm).2) rfl)))
 (first | have HS1_ := cell_grown hg (hHeld.2.1) (by first | (rw [add_block]; exact (fun e_ => ((HL332_2.out.1 _ e_.symm).2) rfl)) | (show some (Addr.add _ _).block ≠ _; rw [add_block]; exact (fun e_ => ((HL332_2.out.1 _ e_.symm).2) rfl)) | exact (fun e_ => ((HL332_2.out.1 _ e_.symm).2) rfl)) | have HS1_ := cell_grown hg (cell_unalloc (hHeld.2.1) (by first | (rw [add_block]; exact Kd.S_lt HO326.out _ rfl) | (show (Addr.add _ _).block < _; rw [add_block]; exact Kd.S_lt HO326.out _ rfl) | exact Kd.S_lt HO326.out _ rfl)) (by first | (rw [add_block]; exact (fun e_ => ((HL332_2.out.1 _ e_.symm).2) rfl)) | (show some (Addr.add _ _).block ≠ _; rw [add_block]; exact (fun e_ => ((HL332_2.out.1 _ e_.symm).2) rfl)) | exact (fun e_ => ((HL332_2.out.1 _ e_.symm).2) rfl)))
 (first | have HS2_ := cell_grown hg (hHeld.2.2) (by first | (rw [add_block]; exact (fun e_ => ((HL332_2.out.1 _ e_.symm).2) rfl)) | (show some (Addr.add _ _).block ≠ _; rw [add_block]; exact (fun e_ => ((HL332_2.out.1 _ e_.symm).2) rfl)) | exact (fun e_ => ((HL332_2.out.1 _ e_.symm).2) rfl)) | have HS2_ := cell_grown hg (cell_unalloc (hHeld.2.2) (by first | (rw [add_block]; exact Kd.S_lt HO326.out _ rfl) | (show (Addr.add _ _).block < _; rw [add_block]; exact Kd.S_lt HO326.out _ rfl) | exact Kd.S_lt HO326.out _ rfl)) (by first | (rw [add_block]; exact (fun e_ => ((HL332_2.out.1 _ e_.symm).2) rfl)) | (show some (Addr.add _ _).block ≠ _; rw [add_block]; exact (fun e_ => ((HL332_2.out.1 _ e_.symm).2) rfl)) | exact (fun e_ => ((HL332_2.out.1 _ e_.symm).2) rfl)))
 rw [← Ny339.out] at ho
 have n0_ := Aside0.mk (IsS98.grown isAll hg (IsS98.own_ne HI0.out HL332_2.out (by decide)))
 have n1_ := Aside0.mk (below_weaken (by exact belowAll) HL.out hb)
 have n2_ := Aside0.mk (KeepBut.trans (kA_ HK.out) (KeepBut.of_grown hg g) (Kd.R_base2 HL332_2.out))
 have n3_ := Aside0.mk (Kd.H_grown (Kd.H_widen (by repeat (first | exact HH20.out | refine Kd.H_alloc ?_ _ | refine Kd.H_drewN ?_ _ | refine Kd.H_drew ?_))) hg (fun k_ e_ => .inl (UU20.out.1 k_ e_)))
 have n4_ := Aside0.mk (ho); clear HI0 HB HK HH20 HO326 UU20 HL332_2; have HI0 := n0_; have HB := n1_; have HK := n2_; have HH20 := n3_; have HO341 := n4_; clear n0_ n1_ n2_ n3_ n4_ ho hb hg hat
 have p12 : 0 ≤ (0 : Int) := (by omega)
 have q12 : (0 : Int) < ((t324.length : Int) : Int) := of_decide_eq_true (by first | (with_reducible assumption) | assumption)
 replace p12 := eq_true p12; replace q12 := eq_true q12; obtain ⟨Ao24, co24, eo24⟩ := Kd.R_slice HO341.out
 (first | subst eo24 | (injection eo24 with f1_ f2_ f3_; have f4_ := f1_.symm; have f5_ := f3_.symm; clear f1_ f2_ f3_; subst f4_; subst f5_))
 obtain ⟨_, _, hraw22, _, _, hcc22, _⟩ := Kd.H_raw HH20.out (by omega) (by have h_ : (0 : Int) < ((t324.length : Int) : Int) := of_decide_eq_true (by first | (with_reducible assumption) | assumption); first | exact h_ | (have e_ := (HN20.out); omega) | simpa using h_)
 obtain ⟨_, hfr22⟩ := Kd.H_at HH20.out (by omega) (by have h_ : (0 : Int) < ((t324.length : Int) : Int) := of_decide_eq_true (by first | (with_reducible assumption) | assumption); first | exact h_ | (have e_ := (HN20.out); omega) | simpa using h_)
 have hx22_0 := hcc22 2 _ rfl; have hf22_0 := hfr22 2
 (try rw [show (k43).sz = 3 from rfl] at hx22_0)
 (try rw [show (k43).sz = 3 from rfl] at hf22_0)
 (try rw [show ((0 : Int)).toNat = 0 from rfl] at hx22_0)
 (try simp only [Nat.reduceMul, Nat.zero_mul, Nat.zero_add, Nat.reduceAdd] at hx22_0)
 (try rw [show ((0 : Int)).toNat = 0 from rfl] at hf22_0)
 (try simp only [Nat.reduceMul, Nat.zero_mul, Nat.zero_add, Nat.reduceAdd] at hf22_0)
 have HP22 := Kd.S_seg0 HH20.out (by omega) (by have h_ : (0 : Int) < ((t324.length : Int) : Int) := of_decide_eq_true (by first | (with_reducible assumption) | assumption); first | exact h_ | (have e_ := (HN20.out); omega) | simpa using h_) (seg := [.slice Ao24 y339.length co24]) (j := 2) (show 3 ≤ 3 from by decide) (x' := (⟨(rd_T43 t324 0).f0, (rd_T43 t324 0).f1, y339⟩ : S43)) (k43_mkM _ _ _ (⟨(rd_T43 t324 0).f0, (rd_T43 t324 0).f1, y339⟩ : S43) HO341.out) (fun _ hk => hk)
 clear hcc22 hfr22
 have HN0_go20 := Aside0.mk (show g ≠ go20 from by have h_ := IsS98.own_ne HI0.out hraw22 (by decide); intro e_; exact h_ (by rw [e_]; rfl))
 have HS22 := HP22.1; rw [← Ny342.out] at HS22; have HQ22 := Aside0.mk HS22; obtain ⟨_, hgg22⟩ := Kd.R_typed hraw22 go20 rfl; have GG22_ := Aside0.mk hgg22; clear HP22 HS22 hgg22
 refine hK.out _ _ ⟨HS0_, HS1_, HS2_⟩ (fun hHeld => ?_)
 clear hK K
 refine norm_ (a' := ?_) ?_ ?_
 rotate_left
 ·show Act.put _ (some 31) _ = _
  simp only [Act.put, List.setIfInBounds_toArray, List.set_cons_zero, List.set_cons_succ, i64_w, i32_w]
  rfl
 refine pure_ (i := 15) (N := some 32) (v := ?_) (a' := ?_) #[true, true, true, true, true, true, true, true, true, true, true, true, true, true, true, true, false, false] rfl rfl (any_of HT_.out (by kernel_rfl)) (fun _ _ _ h => h) (Or.inl ⟨by rfl, ?_⟩) ?_ ?_
 rotate_left
 ·intro w'
  go_simp
  with_reducible rfl
 rotate_left
 ·simp only [Act.put, List.setIfInBounds_toArray, List.set_cons_zero, List.set_cons_succ, i64_w, i32_w]
  rfl
 refine pure_ (i := 16) (N := some 33) (v := ?_) (a' := ?_) #[true, true, true, true, true, true, true, true, true, true, true, true, true, true, true, true, true, false] rfl rfl (any_of HT_.out (by kernel_rfl)) (fun _ _ _ h => h) (Or.inl ⟨by rfl, ?_⟩) ?_ ?_
 rotate_left
 ·intro w'
  go_simp
  with_reducible rfl
 rotate_left
 ·simp only [Act.put, List.setIfInBounds_toArray, List.set_cons_zero, List.set_cons_succ, i64_w, i32_w]
  rfl
 refine last_ (i := 17) (N := none) #[true, true, true, true, true, true, true, true, true, true, true, true, true, true, true, true, true, true] rfl rfl (one_of HT_.out (by kernel_rfl)) (by decide) (fun K hK => ?_)
 refine skip_ (w1 := ?_) (by rfl) rfl ?_ ?_
 rotate_left
 ·go_simp
  rfl
 refine hK.out _ _ ?_
 clear hK K
 refine done_ (done_of HT_.out (by kernel_rfl)) ?_
 try go_wp2
 go_ret
 exact ⟨_, by first | rfl | (simp [errW_none, errW_some] <;> rfl) | (simp [*, errW_none, errW_some] <;> rfl), by (with_reducible repeat (first | apply Kd.S_alloc | apply Kd.S_drewN | apply Kd.S_drew)); exact HQ22.out, by repeat (first | (with_reducible first | exact HI0.out | apply IsS98.alloc | apply IsS98.drewN | apply IsS98.drew | apply IsS98.set_1 | apply IsS98.set_2 | refine IsS98.far ?_ HN0_go20.out _) | exact HI0.out), by repeat (first | (with_reducible first | exact HB.out | apply below_alloc | apply pw_below_drewN | apply below_drew1 | refine below_set ?_ (Nat.le_trans HL.out GB20.out) | refine below_set ?_ (IsS98.ge HI0.out)) | exact HB.out), by repeat (first | (with_reducible first | exact HK.out | apply KeepBut.set_ | apply keep_drewN | apply keep_drew | apply keep_alloc | refine keep_far ?_ GB20.out _) | exact HK.out)⟩
/-! ### spec_DrawRoute7: function 19 -/
def spec_DrawRoute7.f (k : Nat) (l0 : List Int) : Option ((List (S43)) × Int × Int) := (spec_l1New.f k l0).bind fun bt349 => ((spec_l7DrawAny.f k bt349.1 bt349.2.1 bt349.2.2 l0).bind fun bt353 => ((spec_l1Below.f bt349.1 bt353.2.1 bt353.2.2 (wrap64 ((bt353.1.length : Int) + 1))).bind fun bt358 => ((spec_l1Below.f bt349.1 bt358.2.1 bt358.2.2 (wrap64 ((bt353.1.length : Int) + 2))).bind fun bt361 => ((spec_l1Below.f bt349.1 bt361.2.1 bt361.2.2 12).bind fun bt364 => (some (bt353.1, bt358.1, wrap64 (bt361.1 - (wrap64 (Int.tdiv bt364.1 11)))))))))
theorem spec_DrawRoute7.mono : ∀ a0 k, LeO (spec_DrawRoute7.f k a0) (spec_DrawRoute7.f (k + 1) a0) := by
 intro a0 k
 unfold spec_DrawRoute7.f
 repeat' first
   | (with_reducible exact spec_l1New.mono _ _)
   | (with_reducible exact spec_l7DrawAny.mono _ _ _ _ _)
   | (with_reducible exact LeO.refl _)
   | (with_reducible exact LeO.none _)
   | (with_reducible refine LeO.ite ?_ ?_)
   | (with_reducible refine LeO.bind ?_ (fun _ => ?_))
   | exact spec_l1New.mono _ _
   | exact spec_l7DrawAny.mono _ _ _ _ _
   | exact LeO.none _
   | refine LeO.ite ?_ ?_
   | refine LeO.bind ?_ (fun _ => ?_)
set_option maxHeartbeats 8000000 in
set_option maxRecDepth 100000 in
theorem spec_DrawRoute7.calls (k : Nat) (A0 : Option Addr) (c0 : Nat) (l0 : List Int) (r1 : List (S43)) (r2 : Int) (r3 : Int) (w : World) (hr0 : Kd.C (Kd.int .u8) w A0 l0.length l0) (hc0 : l0.length ≤ c0) (h : spec_DrawRoute7.f k l0 = some (r1, r2, r3)) :
  Calls Try.prog 19 #[.slice A0 l0.length c0] w fun e w' => ∃ v0_ : Value, e = .returned (.tuple #[v0_, .int .i64 r2, .int .i64 r3]) ∧ Kd.S k43 43 w' w.heap.size (fun _ => True) v0_ r1 ∧ Below w.heap.size w w' := by
 have HR0 := Aside0.mk hr0; have HC0 := Aside0.mk hc0; clear hr0 hc0; have HB := Aside0.mk (Below.refl w.heap.size w)
 have H : ((spec_l1New.f k l0).bind fun bt349 => ((spec_l7DrawAny.f k bt349.1 bt349.2.1 bt349.2.2 l0).bind fun bt353 => ((spec_l1Below.f bt349.1 bt353.2.1 bt353.2.2 (wrap64 ((bt353.1.length : Int) + 1))).bind fun bt358 => ((spec_l1Below.f bt349.1 bt358.2.1 bt358.2.2 (wrap64 ((bt353.1.length : Int) + 2))).bind fun bt361 => ((spec_l1Below.f bt349.1 bt361.2.1 bt361.2.2 12).bind fun bt364 => (some (bt353.1, bt358.1, wrap64 (bt361.1 - (wrap64 (Int.tdiv bt364.1 11)))))))))) = some (r1, r2, r3) := h
 clear h; replace H := Option.bind_eq_some_iff.mp H; obtain ⟨⟨t349, t350, t351⟩, A20, H⟩ := H
 replace H : ((spec_l7DrawAny.f k t349 t350 t351 l0).bind fun bt353 => ((spec_l1Below.f t349 bt353.2.1 bt353.2.2 (wrap64 ((bt353.1.length : Int) + 1))).bind fun bt358 => ((spec_l1Below.f t349 bt358.2.1 bt358.2.2 (wrap64 ((bt353.1.length : Int) + 2))).bind fun bt361 => ((spec_l1Below.f t349 bt361.2.1 bt361.2.2 12).bind fun bt364 => (some (bt353.1, bt358.1, wrap64 (bt361.1 - (wrap64 (Int.tdiv bt364.1 11))))))))) = some (r1, r2, r3) := H
 have A2 := Aside0.mk A20; clear A20; replace H := Option.bind_eq_some_iff.mp H; obtain ⟨⟨t353, t356, t357⟩, A30, H⟩ := H
 replace H : ((spec_l1Below.f t349 t356 t357 (wrap64 ((t353.length : Int) + 1))).bind fun bt358 => ((spec_l1Below.f t349 bt358.2.1 bt358.2.2 (wrap64 ((t353.length : Int) + 2))).bind fun bt361 => ((spec_l1Below.f t349 bt361.2.1 bt361.2.2 12).bind fun bt364 => (some (t353, bt358.1, wrap64 (bt361.1 - (wrap64 (Int.tdiv bt364.1 11)))))))) = some (r1, r2, r3) := H
 have A3 := Aside0.mk A30; clear A30; replace H := Option.bind_eq_some_iff.mp H; obtain ⟨⟨t358, t359, t360⟩, A40, H⟩ := H
 replace H : ((spec_l1Below.f t349 t359 t360 (wrap64 ((t353.length : Int) + 2))).bind fun bt361 => ((spec_l1Below.f t349 bt361.2.1 bt361.2.2 12).bind fun bt364 => (some (t353, t358, wrap64 (bt361.1 - (wrap64 (Int.tdiv bt364.1 11))))))) = some (r1, r2, r3) := H
 have A4 := Aside0.mk A40; clear A40; replace H := Option.bind_eq_some_iff.mp H; obtain ⟨⟨t361, t362, t363⟩, A50, H⟩ := H
 replace H : ((spec_l1Below.f t349 t362 t363 12).bind fun bt364 => (some (t353, t358, wrap64 (t361 - (wrap64 (Int.tdiv bt364.1 11)))))) = some (r1, r2, r3) := H
 have A5 := Aside0.mk A50; clear A50; replace H := Option.bind_eq_some_iff.mp H; obtain ⟨⟨t364, t365, t366⟩, A60, H⟩ := H
 replace H : (some (t353, t358, wrap64 (t361 - (wrap64 (Int.tdiv t364 11))))) = some (r1, r2, r3) := H
 have A6 := Aside0.mk A60; clear A60; simp only [Option.some.injEq, Prod.mk.injEq] at H; obtain ⟨rfl, rfl, rfl⟩ := H
 go_enter Try.func19, Try.ntmps19
 go_wp2_with (first | ((with_reducible refine gate_callee (f := 47) rfl ?_); refine goesL_ (some 8) rfl rfl Try.func47 (by kernel_rfl) rfl #[.slice A0 l0.length c0] rfl (by (try simp only [List.map_toArray, List.map_cons, List.map_nil]); first | done | rfl | (simp only [List.length_drop, List.length_take]; rfl)) ?_; (with_reducible refine (spec_l1New.calls k _ _ l0 t349 t350 t351 w _ ?side1 ?side2 ?side3 A2.out).mono ?_); (case side1 => repeat (first | (with_reducible first | exact HB.out | apply below_alloc | apply pw_below_drewN | apply below_drew1) | exact HB.out)); (case side2 => exact HR0.out); (case side3 => exact HC0.out); rintro e w7 ⟨g352, rfl, hi, hb, hb2⟩; refine ⟨_, rfl, ?_⟩; replace HB := Aside0.mk (hb); have HI352 := Aside0.mk (hi); (try clear hb); (try clear hb2); (try clear hk); (try clear hi)) | ((with_reducible refine gate_callee (f := 48) rfl ?_); refine goesL_ (some 11) rfl rfl Try.func48 (by kernel_rfl) rfl #[.pointer (some ⟨g352, 0, none⟩), .slice A0 l0.length c0] rfl (by (try simp only [List.map_toArray, List.map_cons, List.map_nil]); first | done | rfl | (simp only [List.length_drop, List.length_take]; rfl)) ?_; (with_reducible refine (spec_l7DrawAny.calls k g352 t349 t350 t351 _ _ l0 t353 t356 t357 w _ ?side1 ?side2 ?side3 ?side4 ?side5 A3.out).mono ?_); (case side1 => repeat (first | (with_reducible first | exact HI352.out | apply IsS98.alloc | apply IsS98.drewN | apply IsS98.drew | apply IsS98.set_1 | apply IsS98.set_2) | exact HI352.out)); (case side2 => repeat (first | (with_reducible first | exact HB.out | apply below_alloc | apply pw_below_drewN | apply below_drew1 | refine below_set ?_ (IsS98.ge HI352.out)) | exact HB.out)); (case side3 => repeat (first | exact (Kd.C_below HR0.out HB.out) | (with_reducible refine Kd.C_alloc ?_ _) | (with_reducible refine Kd.C_drewN ?_ _) | (with_reducible refine Kd.C_drew ?_))); (case side4 => exact HC0.out); (case side5 => exact Kd.far_C 0 HR0.out (IsS98.ge HI352.out)); rintro e w8 ⟨v354, rfl, ho0, hi, hb, hk⟩; refine ⟨_, rfl, ?_⟩; have HO355 := Aside0.mk (Kd.S_lower ho0 (below_size (by repeat (first | (with_reducible first | exact HB.out | apply below_alloc | apply pw_below_drewN | apply below_drew1 | refine below_set ?_ (IsS98.ge HI352.out)) | exact HB.out)))); replace HB := Aside0.mk (hb); replace HI352 := Aside0.mk (hi); (try clear hb); (try clear hb2); (try clear hk); (try clear hi); (try clear ho0); obtain ⟨Ao9, co9, eo9⟩ := Kd.S_slice HO355.out; subst eo9) | ((with_reducible refine gate_callee (f := 49) rfl ?_); refine goesL_ (some 17) rfl rfl Try.func49 (by kernel_rfl) rfl #[.pointer (some ⟨g352, 0, none⟩), .int .i64 (wrap64 ((t353.length : Int) + 1))] rfl (by (try simp only [List.map_toArray, List.map_cons, List.map_nil]); first | done | rfl | (simp only [List.length_drop, List.length_take]; rfl)) ?_; (with_reducible refine (spec_l1Below.calls g352 t349 t356 t357 (wrap64 ((t353.length : Int) + 1)) t358 t359 t360 w _ ?side1 ?side2 A4.out).mono ?_); (case side1 => repeat (first | (with_reducible first | exact HI352.out | apply IsS98.alloc | apply IsS98.drewN | apply IsS98.drew | apply IsS98.set_1 | apply IsS98.set_2) | exact HI352.out)); (case side2 => repeat (first | (with_reducible first | exact HB.out | apply below_alloc | apply pw_below_drewN | apply below_drew1 | refine below_set ?_ (IsS98.ge HI352.out)) | exact HB.out)); rintro e w10 ⟨rfl, hi, hb, hk⟩; refine ⟨_, rfl, ?_⟩; replace HO355 := Aside0.mk (Kd.S_mono (Kd.S_keep (IsS98.apartS (show IsS98 w _ g352 t349 t356 t357 from by repeat (first | (with_reducible first | exact HI352.out | apply IsS98.alloc | apply IsS98.drewN | apply IsS98.drew | apply IsS98.set_1 | apply IsS98.set_2) | exact HI352.out)) (pS_ HO355.out) (by decide)) hk (fun _ h => h.2)) (fun _ h => h.1)); replace HB := Aside0.mk (hb); replace HI352 := Aside0.mk (hi); (try clear hb); (try clear hb2); (try clear hk); (try clear hi)) | ((with_reducible refine gate_callee (f := 49) rfl ?_); refine goesL_ (some 22) rfl rfl Try.func49 (by kernel_rfl) rfl #[.pointer (some ⟨g352, 0, none⟩), .int .i64 (wrap64 ((t353.length : Int) + 2))] rfl (by (try simp only [List.map_toArray, List.map_cons, List.map_nil]); first | done | rfl | (simp only [List.length_drop, List.length_take]; rfl)) ?_; (with_reducible refine (spec_l1Below.calls g352 t349 t359 t360 (wrap64 ((t353.length : Int) + 2)) t361 t362 t363 w _ ?side1 ?side2 A5.out).mono ?_); (case side1 => repeat (first | (with_reducible first | exact HI352.out | apply IsS98.alloc | apply IsS98.drewN | apply IsS98.drew | apply IsS98.set_1 | apply IsS98.set_2) | exact HI352.out)); (case side2 => repeat (first | (with_reducible first | exact HB.out | apply below_alloc | apply pw_below_drewN | apply below_drew1 | refine below_set ?_ (IsS98.ge HI352.out)) | exact HB.out)); rintro e w11 ⟨rfl, hi, hb, hk⟩; refine ⟨_, rfl, ?_⟩; replace HO355 := Aside0.mk (Kd.S_mono (Kd.S_keep (IsS98.apartS (show IsS98 w _ g352 t349 t359 t360 from by repeat (first | (with_reducible first | exact HI352.out | apply IsS98.alloc | apply IsS98.drewN | apply IsS98.drew | apply IsS98.set_1 | apply IsS98.set_2) | exact HI352.out)) (pS_ HO355.out) (by decide)) hk (fun _ h => h.2)) (fun _ h => h.1)); replace HB := Aside0.mk (hb); replace HI352 := Aside0.mk (hi); (try clear hb); (try clear hb2); (try clear hk); (try clear hi)) | ((with_reducible refine gate_callee (f := 49) rfl ?_); refine goesL_ (some 24) rfl rfl Try.func49 (by kernel_rfl) rfl #[.pointer (some ⟨g352, 0, none⟩), .int .i64 12] rfl (by (try simp only [List.map_toArray, List.map_cons, List.map_nil]); first | done | rfl | (simp only [List.length_drop, List.length_take]; rfl)) ?_; (with_reducible refine (spec_l1Below.calls g352 t349 t362 t363 12 t364 t365 t366 w _ ?side1 ?side2 A6.out).mono ?_); (case side1 => repeat (first | (with_reducible first | exact HI352.out | apply IsS98.alloc | apply IsS98.drewN | apply IsS98.drew | apply IsS98.set_1 | apply IsS98.set_2) | exact HI352.out)); (case side2 => repeat (first | (with_reducible first | exact HB.out | apply below_alloc | apply pw_below_drewN | apply below_drew1 | refine below_set ?_ (IsS98.ge HI352.out)) | exact HB.out)); rintro e w12 ⟨rfl, hi, hb, hk⟩; refine ⟨_, rfl, ?_⟩; replace HO355 := Aside0.mk (Kd.S_mono (Kd.S_keep (IsS98.apartS (show IsS98 w _ g352 t349 t362 t363 from by repeat (first | (with_reducible first | exact HI352.out | apply IsS98.alloc | apply IsS98.drewN | apply IsS98.drew | apply IsS98.set_1 | apply IsS98.set_2) | exact HI352.out)) (pS_ HO355.out) (by decide)) hk (fun _ h => h.2)) (fun _ h => h.1)); replace HB := Aside0.mk (hb); replace HI352 := Aside0.mk (hi); (try clear hb); (try clear hb2); (try clear hk); (try clear hi)))
 go_ret3
 exact ⟨_, by first | rfl | (simp [errW_none, errW_some] <;> rfl) | (simp [*, errW_none, errW_some] <;> rfl), by (with_reducible repeat (first | apply Kd.S_alloc | apply Kd.S_drewN | apply Kd.S_drew)); exact HO355.out, by repeat (first | (with_reducible first | exact HB.out | apply below_alloc | apply pw_below_drewN | apply below_drew1 | refine below_set ?_ (IsS98.ge HI352.out)) | exact HB.out)⟩

/-! ### laws_sameInts: function 20 -/
def laws_sameInts.l0 : Nat → List Int → List Int → Int → Option (Bool)
 | 0, _, _, _ => none
 | k + 1, x0, x1, x5 => if x5 < (x0.length : Int) then (if 0 ≤ x5 then (if x5 < (x1.length : Int) then (if (rd x0 x5) = (rd x1 x5) then (laws_sameInts.l0 k x0 x1 (wrap64 (x5 + 1))) else (some false)) else (none)) else (none)) else (some true)
def laws_sameInts.f (k : Nat) (l0 : List Int) (l1 : List Int) : Option (Bool) := if (l0.length : Int) = (l1.length : Int) then (laws_sameInts.l0 k l0 l1 0) else (some false)
theorem laws_sameInts.mono_l : ∀ k, (∀ y0 y1 y2, LeO (laws_sameInts.l0 k y0 y1 y2) (laws_sameInts.l0 (k + 1) y0 y1 y2))
 | 0 => fun _ _ _ r h => by simp [laws_sameInts.l0] at h
 | k + 1 => by
  have ih0 := laws_sameInts.mono_l k
  ·intro y0 y1 y2
   unfold laws_sameInts.l0
   repeat' first
   | (with_reducible exact ih0 _ _ _)
   | (with_reducible exact LeO.refl _)
   | (with_reducible exact LeO.none _)
   | (with_reducible refine LeO.ite ?_ ?_)
   | (with_reducible refine LeO.bind ?_ (fun _ => ?_))
   | exact ih0 _ _ _
   | exact LeO.none _
   | refine LeO.ite ?_ ?_
   | refine LeO.bind ?_ (fun _ => ?_)
theorem laws_sameInts.mono : ∀ a0 a1 k, LeO (laws_sameInts.f k a0 a1) (laws_sameInts.f (k + 1) a0 a1) := by
 intro a0 a1 k
 have ih0 := laws_sameInts.mono_l k
 unfold laws_sameInts.f
 repeat' first
   | (with_reducible exact ih0 _ _ _)
   | (with_reducible exact LeO.refl _)
   | (with_reducible exact LeO.none _)
   | (with_reducible refine LeO.ite ?_ ?_)
   | (with_reducible refine LeO.bind ?_ (fun _ => ?_))
   | exact ih0 _ _ _
   | exact LeO.none _
   | refine LeO.ite ?_ ?_
   | refine LeO.bind ?_ (fun _ => ?_)
set_option maxHeartbeats 8000000 in
set_option maxRecDepth 100000 in
theorem laws_sameInts.calls (k : Nat) (A0 : Option Addr) (c0 : Nat) (l0 : List Int) (A1 : Option Addr) (c1 : Nat) (l1 : List Int) (r : Bool) (w : World) (hr0 : Kd.C (Kd.int .i64) w A0 l0.length l0) (hc0 : l0.length ≤ c0) (hr1 : Kd.C (Kd.int .i64) w A1 l1.length l1) (hc1 : l1.length ≤ c1) (h : laws_sameInts.f k l0 l1 = some r) :
  Calls Try.prog 20 #[.slice A0 l0.length c0, .slice A1 l1.length c1] w fun e w' => e = .returned (.bool r) ∧ Drawn0 w w' := by
 have HR0 := Aside0.mk hr0; have HC0 := Aside0.mk hc0; clear hr0 hc0; have HR1 := Aside0.mk hr1; have HC1 := Aside0.mk hc1; clear hr1 hc1; have H : (if (l0.length : Int) = (l1.length : Int) then (laws_sameInts.l0 k l0 l1 0) else (some false)) = some r := h; clear h
 by_cases c3 : (l0.length : Int) = (l1.length : Int)
 case neg =>
  rw [if_neg c3] at H; have c3b0 : ((l0.length : Int) == (l1.length : Int)) = false := beq_eq_false_iff_ne.mpr c3; have c3b1 : ((l0.length : Int) != (l1.length : Int)) = true := bne_iff_ne.mpr c3
  have c3b2 : (l0.length == l1.length) = false := by first | simpa using c3 | (simp at c3 ⊢; omega)
  obtain rfl := Option.some.inj H
  go_enter Try.func20, Try.ntmps20
  go_wp2
  repeat (go_quiet (fail); try go_wp2)
  go_ret
  exact ⟨by first | rfl | (simp; done) | (simp [*]; done), by repeat (first | exact Drawn0.refl _ | apply Drawn0.step)⟩

 rw [if_pos c3] at H; have c3b0 : ((l0.length : Int) == (l1.length : Int)) = true := beq_iff_eq.mpr c3; have c3b1 : ((l0.length : Int) != (l1.length : Int)) = false := bne_eq_false_iff_eq.mpr c3
 have c3b2 : (l0.length == l1.length) = true := by first | simpa using c3 | (simp at c3 ⊢; omega)
 clear c3
 have H' := Aside0.mk H
 clear H
 go_enter Try.func20, Try.ntmps20
 go_wp2
 repeat (go_quiet (fail); try go_wp2)
 go_loopg [5] k (fun kq v5 w' => ∃ (x5_1 : Int), v5 = .int .i64 x5_1 ∧ Aside0 (laws_sameInts.l0 kq l0 l1 x5_1 = some r) ∧ Aside0 (kq ≤ k) ∧ Drawn0 w w')
 case atStart => exact ⟨(0), (by first | rfl | (simp; done) | (simp [*]; done)), H', ⟨Nat.le_refl _⟩, by repeat (first | exact Drawn0.refl _ | apply Drawn0.step)⟩
 case round =>
  clear H'
  (try clear c1); (try clear c2); (try clear p2); (try clear c3); (try clear c3b0); (try clear c3b1); (try clear c3b2); obtain ⟨x5_1, rfl, HA, HK1, ⟨m1, rfl⟩⟩ := hrel
  cases gk with
  | zero => exact absurd HA.out (by simp [laws_sameInts.l0])
  | succ k1 =>
   have H := HA.out; clear HA; simp only [laws_sameInts.l0] at H
   by_cases c4 : x5_1 < (l0.length : Int)
   case neg =>
    rw [if_neg c4] at H; have c4b0 : decide (x5_1 < (l0.length : Int)) = false := decide_eq_false c4; clear c4; obtain rfl := Option.some.inj H
    go_wp2
    repeat (go_quiet (fail); try go_wp2)
    go_ret
    exact ⟨by first | rfl | (simp; done) | (simp [*]; done), by repeat (first | exact Drawn0.refl _ | apply Drawn0.step)⟩
   rw [if_pos c4] at H; have c4b0 : decide (x5_1 < (l0.length : Int)) = true := decide_eq_true c4; clear c4
   by_cases c5 : 0 ≤ x5_1
   case neg =>
    rw [if_neg c5] at H
    exact absurd H (by simp)
   rw [if_pos c5] at H; have c5b0 : decide (0 ≤ x5_1) = true := decide_eq_true c5; clear c5
   by_cases c6 : x5_1 < (l1.length : Int)
   case neg =>
    rw [if_neg c6] at H
    exact absurd H (by simp)
   rw [if_pos c6] at H; have c6b0 : decide (x5_1 < (l1.length : Int)) = true := decide_eq_true c6; clear c6
   by_cases c7 : (rd l0 x5_1) = (rd l1 x5_1)
   case neg =>
    rw [if_neg c7] at H; have c7b0 : ((rd l0 x5_1) == (rd l1 x5_1)) = false := beq_eq_false_iff_ne.mpr c7; have c7b1 : ((rd l0 x5_1) != (rd l1 x5_1)) = true := bne_iff_ne.mpr c7; obtain rfl := Option.some.inj H
    have p367 : 0 ≤ (x5_1 : Int) := of_decide_eq_true (by first | (with_reducible assumption) | assumption)
    have q367 : x5_1 < (l0.length : Int) := of_decide_eq_true (by first | (with_reducible assumption) | assumption)
    obtain ⟨ad367, e367, hx367_0⟩ := Kd.at_int HR0.out x5_1 p367 q367
    cases e367
    replace p367 := eq_true p367; replace q367 := eq_true q367
    have p368 : 0 ≤ (x5_1 : Int) := of_decide_eq_true (by first | (with_reducible assumption) | assumption)
    have q368 : x5_1 < (l1.length : Int) := of_decide_eq_true (by first | (with_reducible assumption) | assumption)
    obtain ⟨ad368, e368, hx368_0⟩ := Kd.at_int HR1.out x5_1 p368 q368
    cases e368
    replace p368 := eq_true p368; replace q368 := eq_true q368
    go_wp2
    repeat (go_quiet (fail); try go_wp2)
    go_ret
    exact ⟨by first | rfl | (simp; done) | (simp [*]; done), by repeat (first | exact Drawn0.refl _ | apply Drawn0.step)⟩
   rw [if_pos c7] at H; have c7b0 : ((rd l0 x5_1) == (rd l1 x5_1)) = true := beq_iff_eq.mpr c7; have c7b1 : ((rd l0 x5_1) != (rd l1 x5_1)) = false := bne_eq_false_iff_eq.mpr c7; clear c7
   have H' := Aside0.mk H
   clear H
   have p367 : 0 ≤ (x5_1 : Int) := of_decide_eq_true (by first | (with_reducible assumption) | assumption)
   have q367 : x5_1 < (l0.length : Int) := of_decide_eq_true (by first | (with_reducible assumption) | assumption)
   obtain ⟨ad367, e367, hx367_0⟩ := Kd.at_int HR0.out x5_1 p367 q367
   cases e367
   replace p367 := eq_true p367; replace q367 := eq_true q367
   have p368 : 0 ≤ (x5_1 : Int) := of_decide_eq_true (by first | (with_reducible assumption) | assumption)
   have q368 : x5_1 < (l1.length : Int) := of_decide_eq_true (by first | (with_reducible assumption) | assumption)
   obtain ⟨ad368, e368, hx368_0⟩ := Kd.at_int HR1.out x5_1 p368 q368
   cases e368
   replace p368 := eq_true p368; replace q368 := eq_true q368
   go_wp2
   repeat (go_quiet (fail); try go_wp2)
   go_roundg k1
   case measure => have := HK1.out; omega
   case rel => exact ⟨(wrap64 (x5_1 + 1)), (by first | rfl | (simp; done) | (simp [*]; done)), H', ⟨by have := HK1.out; omega⟩, by repeat (first | exact Drawn0.refl _ | apply Drawn0.step)⟩
/-! ### laws_within: function 21 -/
def laws_within.l0 : Nat → List Int → Int → Int → Option (Bool)
 | 0, _, _, _ => none
 | k + 1, x0, x1, x5 => if x5 < (x0.length : Int) then (if 0 ≤ x5 then (if (rd x0 x5) = x1 then (some true) else (laws_within.l0 k x0 x1 (wrap64 (x5 + 1)))) else (none)) else (some false)
def laws_within.f (k : Nat) (l0 : List Int) (a1 : Int) : Option (Bool) := laws_within.l0 k l0 a1 0
theorem laws_within.mono_l : ∀ k, (∀ y0 y1 y2, LeO (laws_within.l0 k y0 y1 y2) (laws_within.l0 (k + 1) y0 y1 y2))
 | 0 => fun _ _ _ r h => by simp [laws_within.l0] at h
 | k + 1 => by
  have ih0 := laws_within.mono_l k
  ·intro y0 y1 y2
   unfold laws_within.l0
   repeat' first
   | (with_reducible exact ih0 _ _ _)
   | (with_reducible exact LeO.refl _)
   | (with_reducible exact LeO.none _)
   | (with_reducible refine LeO.ite ?_ ?_)
   | (with_reducible refine LeO.bind ?_ (fun _ => ?_))
   | exact ih0 _ _ _
   | exact LeO.none _
   | refine LeO.ite ?_ ?_
   | refine LeO.bind ?_ (fun _ => ?_)
theorem laws_within.mono : ∀ a0 a1 k, LeO (laws_within.f k a0 a1) (laws_within.f (k + 1) a0 a1) := by
 intro a0 a1 k
 have ih0 := laws_within.mono_l k
 unfold laws_within.f
 repeat' first
   | (with_reducible exact ih0 _ _ _)
   | (with_reducible exact LeO.refl _)
   | (with_reducible exact LeO.none _)
   | (with_reducible refine LeO.ite ?_ ?_)
   | (with_reducible refine LeO.bind ?_ (fun _ => ?_))
   | exact ih0 _ _ _
   | exact LeO.none _
   | refine LeO.ite ?_ ?_
   | refine LeO.bind ?_ (fun _ => ?_)
set_option maxHeartbeats 8000000 in
set_option maxRecDepth 100000 in
theorem laws_within.calls (k : Nat) (A0 : Option Addr) (c0 : Nat) (l0 : List Int) (a1 : Int) (r : Bool) (w : World) (hr0 : Kd.C (Kd.int .i64) w A0 l0.length l0) (hc0 : l0.length ≤ c0) (h : laws_within.f k l0 a1 = some r) :
  Calls Try.prog 21 #[.slice A0 l0.length c0, .int .i64 a1] w fun e w' => e = .returned (.bool r) ∧ Drawn0 w w' := by
 have HR0 := Aside0.mk hr0; have HC0 := Aside0.mk hc0; clear hr0 hc0; have H : (laws_within.l0 k l0 a1 0) = some r := h; clear h
 have H' := Aside0.mk H
 clear H
 go_enter Try.func21, Try.ntmps21
 go_wp2
 go_loopg [5] k (fun kq v5 w' => ∃ (x5_1 : Int), v5 = .int .i64 x5_1 ∧ Aside0 (laws_within.l0 kq l0 a1 x5_1 = some r) ∧ Aside0 (kq ≤ k) ∧ Drawn0 w w')
 case atStart => exact ⟨(0), (by first | rfl | (simp; done) | (simp [*]; done)), H', ⟨Nat.le_refl _⟩, by repeat (first | exact Drawn0.refl _ | apply Drawn0.step)⟩
 case round =>
  clear H'
  (try clear c2); (try clear p2); obtain ⟨x5_1, rfl, HA, HK1, ⟨m1, rfl⟩⟩ := hrel
  cases gk with
  | zero => exact absurd HA.out (by simp [laws_within.l0])
  | succ k1 =>
   have H := HA.out; clear HA; simp only [laws_within.l0] at H
   by_cases c3 : x5_1 < (l0.length : Int)
   case neg =>
    rw [if_neg c3] at H; have c3b0 : decide (x5_1 < (l0.length : Int)) = false := decide_eq_false c3; clear c3; obtain rfl := Option.some.inj H
    go_wp2
    go_ret
    exact ⟨by first | rfl | (simp; done) | (simp [*]; done), by repeat (first | exact Drawn0.refl _ | apply Drawn0.step)⟩

   rw [if_pos c3] at H; have c3b0 : decide (x5_1 < (l0.length : Int)) = true := decide_eq_true c3; clear c3
   by_cases c4 : 0 ≤ x5_1
   case neg =>
    rw [if_neg c4] at H
    exact absurd H (by simp)
   rw [if_pos c4] at H; have c4b0 : decide (0 ≤ x5_1) = true := decide_eq_true c4; clear c4
   by_cases c5 : (rd l0 x5_1) = a1
   case pos =>
    rw [if_pos c5] at H; have c5b0 : ((rd l0 x5_1) == a1) = true := beq_iff_eq.mpr c5; have c5b1 : ((rd l0 x5_1) != a1) = false := bne_eq_false_iff_eq.mpr c5; clear c5; obtain rfl := Option.some.inj H
    have p369 : 0 ≤ (x5_1 : Int) := of_decide_eq_true (by first | (with_reducible assumption) | assumption)
    have q369 : x5_1 < (l0.length : Int) := of_decide_eq_true (by first | (with_reducible assumption) | assumption)
    obtain ⟨ad369, e369, hx369_0⟩ := Kd.at_int HR0.out x5_1 p369 q369
    cases e369
    replace p369 := eq_true p369; replace q369 := eq_true q369
    go_wp2
    go_ret
    exact ⟨by first | rfl | (simp; done) | (simp [*]; done), by repeat (first | exact Drawn0.refl _ | apply Drawn0.step)⟩
   rw [if_neg c5] at H; have c5b0 : ((rd l0 x5_1) == a1) = false := beq_eq_false_iff_ne.mpr c5; have c5b1 : ((rd l0 x5_1) != a1) = true := bne_iff_ne.mpr c5
   have H' := Aside0.mk H
   clear H
   have p369 : 0 ≤ (x5_1 : Int) := of_decide_eq_true (by first | (with_reducible assumption) | assumption)
   have q369 : x5_1 < (l0.length : Int) := of_decide_eq_true (by first | (with_reducible assumption) | assumption)
   obtain ⟨ad369, e369, hx369_0⟩ := Kd.at_int HR0.out x5_1 p369 q369
   cases e369
   replace p369 := eq_true p369; replace q369 := eq_true q369
   go_wp2
   go_roundg k1
   case measure => have := HK1.out; omega
   case rel => exact ⟨(wrap64 (x5_1 + 1)), (by first | rfl | (simp; done) | (simp [*]; done)), H', ⟨by have := HK1.out; omega⟩, by repeat (first | exact Drawn0.refl _ | apply Drawn0.step)⟩
end Go.Proofs.Ytkcmdfeiaafdjaa.PFnHops
