-- laid by a program of this session (wip/lay/lay.py); Lean checks it
import Derived.Test.YtkcmdfeiaafdjaaVFnHopsShort
import Derived.Test.YtkcmdfeiaafdjaaPFnHopsx0
import Derived.Test.YtkcmdfeiaafdjaaPFnHopsx1
import Derived.Test.YtkcmdfeiaafdjaaPFnHopsx2
namespace Go.Proofs.Ytkcmdfeiaafdjaa.PFnHops
-- squashed
open Go.RowKit Go.Proofs.YtkcmdfeiaafdjaaW.PrintWords Go.Proofs.YtkcmdfeiaafdjaaW.PrintLast Go.Proofs.YtkcmdfeiaafdjaaW.PrintMore Go.Proofs.Ytkcmdfeiaafdjaa.Short
attribute [local go_sem] max2_int min2_int max_two min_two max_three min_three max_four min_four   -- for this text's walks alone
set_option linter.unusedVariables false
set_option linter.unusedSimpArgs false

theorem cz3_ {w : World} {g : Nat} {t : TypeId} {cs : Array Value} {v : Value} (h : w.heap[g]? = some (.cells cs t (0, 0))) (i : Nat) (e : cs[i]? = some v) : w.cell? ⟨g, i, none⟩ = some v := (blk_cell h i).trans e
theorem nn3_ {a b : Nat} (h : a ≠ b) : a ≠ b ∧ b ≠ a := ⟨h, h.symm⟩
/-! ### spec_Route7: function 10 -/
mutual
def spec_Route7.j0 : Nat → List (S43) → Int → Int → Bool → Option (Int × Int × List Int)
 | 0, _, _, _, _ => none
 | k + 1, x0, x1, x2, x35 => if x35 = true then (some (8, (-1), ([] : List Int))) else (if 0 ≤ x1 then (if x1 < (x0.length : Int) then ((spec_l7Has.f k ((rd_T43 x0 x1).f0) ((rd_T43 x0 x1).f1) ((rd_T43 x0 x1).f2) 4).bind fun t129 => (if t129 ≥ 0 then (some (5, x1, ([] : List Int))) else (spec_Route7.l0 k x0 x1 (([] : List Int)) x2))) else (none)) else (none))
def spec_Route7.l0 : Nat → List (S43) → Int → List Int → Int → Option (Int × Int × List Int)
 | 0, _, _, _, _ => none
 | k + 1, x0, x1, x7, x8 => if 0 ≤ x8 then (if x8 < (x0.length : Int) then (if x8 = x1 then (spec_Route7.j2 k x0 x1 x7 x8 (-1) 1 true ((rd_T43 x0 x8).f0) ((rd_T43 x0 x8).f1) ((rd_T43 x0 x8).f2)) else ((spec_l7Within.f k x7 x8).bind fun t135 => (if t135 = true then (spec_Route7.j2 k x0 x1 x7 x8 (-1) 1 true ((rd_T43 x0 x8).f0) ((rd_T43 x0 x8).f1) ((rd_T43 x0 x8).f2)) else (spec_Route7.j2 k x0 x1 x7 x8 (-1) 1 (decide ((x7.length : Int) > 5)) ((rd_T43 x0 x8).f0) ((rd_T43 x0 x8).f1) ((rd_T43 x0 x8).f2))))) else (none)) else (none)
def spec_Route7.j2 : Nat → List (S43) → Int → List Int → Int → Int → Int → Bool → Bool → Bool → List (S45) → Option (Int × Int × List Int)
 | 0, _, _, _, _, _, _, _, _, _, _ => none
 | k + 1, x0, x1, x7, x8, x10, x11, x51, x135000, x135001, x135002 => if x51 = true then (if x10 < 0 then (some (7, x8, x7)) else (if x7.length < 17592186044416 then (spec_Route7.l0 k x0 x1 (x7 ++ [x8]) x10) else (none))) else ((spec_l7Screened.f k x0 x1 x8).bind fun t139 => (if t139 = true then (if x10 < 0 then (some (6, x8, x7)) else (if x7.length < 17592186044416 then (spec_Route7.l0 k x0 x1 (x7 ++ [x8]) x10) else (none))) else ((spec_l7Has.f k x135000 x135001 x135002 1).bind fun t143 => (if t143 ≥ 0 then ((spec_l7Has.f k x135000 x135001 x135002 1).bind fun t144 => (if t144 < 0 then (some (x11, x8, x7)) else (if x7.length < 17592186044416 then (spec_Route7.l0 k x0 x1 (x7 ++ [x8]) t144) else (none)))) else (if x135000 = true then ((spec_l7Has.f k x135000 x135001 x135002 6).bind fun t148 => (spec_Route7.j3 k x0 x1 x7 x8 x10 x11 (decide (t148 ≥ 0)) x135000 x135001 x135002)) else (spec_Route7.j3 k x0 x1 x7 x8 x10 x11 false x135000 x135001 x135002))))))
def spec_Route7.j3 : Nat → List (S43) → Int → List Int → Int → Int → Int → Bool → Bool → Bool → List (S45) → Option (Int × Int × List Int)
 | 0, _, _, _, _, _, _, _, _, _, _ => none
 | k + 1, x0, x1, x7, x8, x10, x11, x76, x135000, x135001, x135002 => if x76 = true then (if x10 < 0 then (some (2, x8, x7)) else (if x7.length < 17592186044416 then (spec_Route7.l0 k x0 x1 (x7 ++ [x8]) x10) else (none))) else (if x135000 = true then ((spec_l7Has.f k x135000 x135001 x135002 2).bind fun t152 => (spec_Route7.j4 k x0 x1 x7 x8 x10 x11 (decide (t152 ≥ 0)) x135000 x135001 x135002)) else (spec_Route7.j4 k x0 x1 x7 x8 x10 x11 false x135000 x135001 x135002))
def spec_Route7.j4 : Nat → List (S43) → Int → List Int → Int → Int → Int → Bool → Bool → Bool → List (S45) → Option (Int × Int × List Int)
 | 0, _, _, _, _, _, _, _, _, _, _ => none
 | k + 1, x0, x1, x7, x8, x10, x11, x84, x135000, x135001, x135002 => if x84 = true then ((spec_l7Has.f k x135000 x135001 x135002 2).bind fun t153 => (if t153 < 0 then (some (x11, x8, x7)) else (if x7.length < 17592186044416 then (spec_Route7.l0 k x0 x1 (x7 ++ [x8]) t153) else (none)))) else (if x135000 = true then (if x10 < 0 then (some (3, x8, x7)) else (if x7.length < 17592186044416 then (spec_Route7.l0 k x0 x1 (x7 ++ [x8]) x10) else (none))) else (if x135001 = true then ((spec_l7Has.f k x135000 x135001 x135002 3).bind fun t160 => (spec_Route7.j5 k x0 x1 x7 x8 x10 x11 (decide (t160 ≥ 0)) x135000 x135001 x135002)) else (spec_Route7.j5 k x0 x1 x7 x8 x10 x11 false x135000 x135001 x135002)))
def spec_Route7.j5 : Nat → List (S43) → Int → List Int → Int → Int → Int → Bool → Bool → Bool → List (S45) → Option (Int × Int × List Int)
 | 0, _, _, _, _, _, _, _, _, _, _ => none
 | k + 1, x0, x1, x7, x8, x10, x11, x97, x135000, x135001, x135002 => if x97 = true then ((spec_l7Has.f k x135000 x135001 x135002 3).bind fun t161 => (if t161 < 0 then (some (x11, x8, x7)) else (if x7.length < 17592186044416 then (spec_Route7.l0 k x0 x1 (x7 ++ [x8]) t161) else (none)))) else (if x135001 = true then (if x10 < 0 then (some (4, x8, x7)) else (if x7.length < 17592186044416 then (spec_Route7.l0 k x0 x1 (x7 ++ [x8]) x10) else (none))) else (if x10 < 0 then (some (x11, x8, x7)) else (if x7.length < 17592186044416 then (spec_Route7.l0 k x0 x1 (x7 ++ [x8]) x10) else (none))))
end
def spec_Route7.f (k : Nat) (l0 : List (S43)) (a1 : Int) (a2 : Int) : Option (Int × Int × List Int) := (spec_SubsOk.f k l0).bind fun t125 => (if t125 = true then ((spec_l1In.f a1 0 (wrap64 ((l0.length : Int) - 1))).bind fun t126 => (if t126 = true then ((spec_l1In.f a2 0 (wrap64 ((l0.length : Int) - 1))).bind fun t127 => (if t127 = true then (spec_Route7.j0 k l0 a1 a2 (a1 == a2)) else (spec_Route7.j0 k l0 a1 a2 true))) else (spec_Route7.j0 k l0 a1 a2 true))) else (spec_Route7.j0 k l0 a1 a2 true))
theorem spec_Route7.mono_l : ∀ k, (∀ y0 y1 y2 y3, LeO (spec_Route7.j0 k y0 y1 y2 y3) (spec_Route7.j0 (k + 1) y0 y1 y2 y3)) ∧ (∀ y0 y1 y2 y3, LeO (spec_Route7.l0 k y0 y1 y2 y3) (spec_Route7.l0 (k + 1) y0 y1 y2 y3)) ∧ (∀ y0 y1 y2 y3 y4 y5 y6 y7 y8 y9, LeO (spec_Route7.j2 k y0 y1 y2 y3 y4 y5 y6 y7 y8 y9) (spec_Route7.j2 (k + 1) y0 y1 y2 y3 y4 y5 y6 y7 y8 y9)) ∧ (∀ y0 y1 y2 y3 y4 y5 y6 y7 y8 y9, LeO (spec_Route7.j3 k y0 y1 y2 y3 y4 y5 y6 y7 y8 y9) (spec_Route7.j3 (k + 1) y0 y1 y2 y3 y4 y5 y6 y7 y8 y9)) ∧ (∀ y0 y1 y2 y3 y4 y5 y6 y7 y8 y9, LeO (spec_Route7.j4 k y0 y1 y2 y3 y4 y5 y6 y7 y8 y9) (spec_Route7.j4 (k + 1) y0 y1 y2 y3 y4 y5 y6 y7 y8 y9)) ∧ (∀ y0 y1 y2 y3 y4 y5 y6 y7 y8 y9, LeO (spec_Route7.j5 k y0 y1 y2 y3 y4 y5 y6 y7 y8 y9) (spec_Route7.j5 (k + 1) y0 y1 y2 y3 y4 y5 y6 y7 y8 y9))
 | 0 => ⟨fun _ _ _ _ r h => by simp [spec_Route7.j0] at h, fun _ _ _ _ r h => by simp [spec_Route7.l0] at h, fun _ _ _ _ _ _ _ _ _ _ r h => by simp [spec_Route7.j2] at h, fun _ _ _ _ _ _ _ _ _ _ r h => by simp [spec_Route7.j3] at h, fun _ _ _ _ _ _ _ _ _ _ r h => by simp [spec_Route7.j4] at h, fun _ _ _ _ _ _ _ _ _ _ r h => by simp [spec_Route7.j5] at h⟩
 | k + 1 => by
  obtain ⟨ih0, ih1, ih2, ih3, ih4, ih5⟩ := spec_Route7.mono_l k
  refine ⟨?_, ?_, ?_, ?_, ?_, ?_⟩
  ·intro y0 y1 y2 y3
   unfold spec_Route7.j0
   repeat' first
   | (with_reducible exact ih0 _ _ _ _)
   | (with_reducible exact ih1 _ _ _ _)
   | (with_reducible exact ih2 _ _ _ _ _ _ _ _ _ _)
   | (with_reducible exact ih3 _ _ _ _ _ _ _ _ _ _)
   | (with_reducible exact ih4 _ _ _ _ _ _ _ _ _ _)
   | (with_reducible exact ih5 _ _ _ _ _ _ _ _ _ _)
   | (with_reducible exact spec_SubsOk.mono _ _)
   | (with_reducible exact spec_l7Has.mono _ _ _ _ _)
   | (with_reducible exact spec_l7Screened.mono _ _ _ _)
   | (with_reducible exact spec_l7Within.mono _ _ _)
   | (with_reducible exact LeO.refl _)
   | (with_reducible exact LeO.none _)
   | (with_reducible refine LeO.ite ?_ ?_)
   | (with_reducible refine LeO.bind ?_ (fun _ => ?_))
   | exact ih0 _ _ _ _
   | exact ih1 _ _ _ _
   | exact ih2 _ _ _ _ _ _ _ _ _ _
   | exact ih3 _ _ _ _ _ _ _ _ _ _
   | exact ih4 _ _ _ _ _ _ _ _ _ _
   | exact ih5 _ _ _ _ _ _ _ _ _ _
   | exact spec_SubsOk.mono _ _
   | exact spec_l7Has.mono _ _ _ _ _
   | exact spec_l7Screened.mono _ _ _ _
   | exact spec_l7Within.mono _ _ _
   | exact LeO.none _
   | refine LeO.ite ?_ ?_
   | refine LeO.bind ?_ (fun _ => ?_)
  ·intro y0 y1 y2 y3
   unfold spec_Route7.l0
   repeat' first
   | (with_reducible exact ih0 _ _ _ _)
   | (with_reducible exact ih1 _ _ _ _)
   | (with_reducible exact ih2 _ _ _ _ _ _ _ _ _ _)
   | (with_reducible exact ih3 _ _ _ _ _ _ _ _ _ _)
   | (with_reducible exact ih4 _ _ _ _ _ _ _ _ _ _)
   | (with_reducible exact ih5 _ _ _ _ _ _ _ _ _ _)
   | (with_reducible exact spec_SubsOk.mono _ _)
   | (with_reducible exact spec_l7Has.mono _ _ _ _ _)
   | (with_reducible exact spec_l7Screened.mono _ _ _ _)
   | (with_reducible exact spec_l7Within.mono _ _ _)
   | (with_reducible exact LeO.refl _)
   | (with_reducible exact LeO.none _)
   | (with_reducible refine LeO.ite ?_ ?_)
   | (with_reducible refine LeO.bind ?_ (fun _ => ?_))
   | exact ih0 _ _ _ _
   | exact ih1 _ _ _ _
   | exact ih2 _ _ _ _ _ _ _ _ _ _
   | exact ih3 _ _ _ _ _ _ _ _ _ _
   | exact ih4 _ _ _ _ _ _ _ _ _ _
   | exact ih5 _ _ _ _ _ _ _ _ _ _
   | exact spec_SubsOk.mono _ _
   | exact spec_l7Has.mono _ _ _ _ _
   | exact spec_l7Screened.mono _ _ _ _
   | exact spec_l7Within.mono _ _ _
   | exact LeO.none _
   | refine LeO.ite ?_ ?_
   | refine LeO.bind ?_ (fun _ => ?_)
  ·intro y0 y1 y2 y3 y4 y5 y6 y7 y8 y9
   unfold spec_Route7.j2
   repeat' first
   | (with_reducible exact ih0 _ _ _ _)
   | (with_reducible exact ih1 _ _ _ _)
   | (with_reducible exact ih2 _ _ _ _ _ _ _ _ _ _)
   | (with_reducible exact ih3 _ _ _ _ _ _ _ _ _ _)
   | (with_reducible exact ih4 _ _ _ _ _ _ _ _ _ _)
   | (with_reducible exact ih5 _ _ _ _ _ _ _ _ _ _)
   | (with_reducible exact spec_SubsOk.mono _ _)
   | (with_reducible exact spec_l7Has.mono _ _ _ _ _)
   | (with_reducible exact spec_l7Screened.mono _ _ _ _)
   | (with_reducible exact spec_l7Within.mono _ _ _)
   | (with_reducible exact LeO.refl _)
   | (with_reducible exact LeO.none _)
   | (with_reducible refine LeO.ite ?_ ?_)
   | (with_reducible refine LeO.bind ?_ (fun _ => ?_))
   | exact ih0 _ _ _ _
   | exact ih1 _ _ _ _
   | exact ih2 _ _ _ _ _ _ _ _ _ _
   | exact ih3 _ _ _ _ _ _ _ _ _ _
   | exact ih4 _ _ _ _ _ _ _ _ _ _
   | exact ih5 _ _ _ _ _ _ _ _ _ _
   | exact spec_SubsOk.mono _ _
   | exact spec_l7Has.mono _ _ _ _ _
   | exact spec_l7Screened.mono _ _ _ _
   | exact spec_l7Within.mono _ _ _
   | exact LeO.none _
   | refine LeO.ite ?_ ?_
   | refine LeO.bind ?_ (fun _ => ?_)
  ·intro y0 y1 y2 y3 y4 y5 y6 y7 y8 y9
   unfold spec_Route7.j3
   repeat' first
   | (with_reducible exact ih0 _ _ _ _)
   | (with_reducible exact ih1 _ _ _ _)
   | (with_reducible exact ih2 _ _ _ _ _ _ _ _ _ _)
   | (with_reducible exact ih3 _ _ _ _ _ _ _ _ _ _)
   | (with_reducible exact ih4 _ _ _ _ _ _ _ _ _ _)
   | (with_reducible exact ih5 _ _ _ _ _ _ _ _ _ _)
   | (with_reducible exact spec_SubsOk.mono _ _)
   | (with_reducible exact spec_l7Has.mono _ _ _ _ _)
   | (with_reducible exact spec_l7Screened.mono _ _ _ _)
   | (with_reducible exact spec_l7Within.mono _ _ _)
   | (with_reducible exact LeO.refl _)
   | (with_reducible exact LeO.none _)
   | (with_reducible refine LeO.ite ?_ ?_)
   | (with_reducible refine LeO.bind ?_ (fun _ => ?_))
   | exact ih0 _ _ _ _
   | exact ih1 _ _ _ _
   | exact ih2 _ _ _ _ _ _ _ _ _ _
   | exact ih3 _ _ _ _ _ _ _ _ _ _
   | exact ih4 _ _ _ _ _ _ _ _ _ _
   | exact ih5 _ _ _ _ _ _ _ _ _ _
   | exact spec_SubsOk.mono _ _
   | exact spec_l7Has.mono _ _ _ _ _
   | exact spec_l7Screened.mono _ _ _ _
   | exact spec_l7Within.mono _ _ _
   | exact LeO.none _
   | refine LeO.ite ?_ ?_
   | refine LeO.bind ?_ (fun _ => ?_)
  ·intro y0 y1 y2 y3 y4 y5 y6 y7 y8 y9
   unfold spec_Route7.j4
   repeat' first
   | (with_reducible exact ih0 _ _ _ _)
   | (with_reducible exact ih1 _ _ _ _)
   | (with_reducible exact ih2 _ _ _ _ _ _ _ _ _ _)
   | (with_reducible exact ih3 _ _ _ _ _ _ _ _ _ _)
   | (with_reducible exact ih4 _ _ _ _ _ _ _ _ _ _)
   | (with_reducible exact ih5 _ _ _ _ _ _ _ _ _ _)
   | (with_reducible exact spec_SubsOk.mono _ _)
   | (with_reducible exact spec_l7Has.mono _ _ _ _ _)
   | (with_reducible exact spec_l7Screened.mono _ _ _ _)
   | (with_reducible exact spec_l7Within.mono _ _ _)
   | (with_reducible exact LeO.refl _)
   | (with_reducible exact LeO.none _)
   | (with_reducible refine LeO.ite ?_ ?_)
   | (with_reducible refine LeO.bind ?_ (fun _ => ?_))
   | exact ih0 _ _ _ _
   | exact ih1 _ _ _ _
   | exact ih2 _ _ _ _ _ _ _ _ _ _
   | exact ih3 _ _ _ _ _ _ _ _ _ _
   | exact ih4 _ _ _ _ _ _ _ _ _ _
   | exact ih5 _ _ _ _ _ _ _ _ _ _
   | exact spec_SubsOk.mono _ _
   | exact spec_l7Has.mono _ _ _ _ _
   | exact spec_l7Screened.mono _ _ _ _
   | exact spec_l7Within.mono _ _ _
   | exact LeO.none _
   | refine LeO.ite ?_ ?_
   | refine LeO.bind ?_ (fun _ => ?_)
  ·intro y0 y1 y2 y3 y4 y5 y6 y7 y8 y9
   unfold spec_Route7.j5
   repeat' first
   | (with_reducible exact ih0 _ _ _ _)
   | (with_reducible exact ih1 _ _ _ _)
   | (with_reducible exact ih2 _ _ _ _ _ _ _ _ _ _)
   | (with_reducible exact ih3 _ _ _ _ _ _ _ _ _ _)
   | (with_reducible exact ih4 _ _ _ _ _ _ _ _ _ _)
   | (with_reducible exact ih5 _ _ _ _ _ _ _ _ _ _)
   | (with_reducible exact spec_SubsOk.mono _ _)
   | (with_reducible exact spec_l7Has.mono _ _ _ _ _)
   | (with_reducible exact spec_l7Screened.mono _ _ _ _)
   | (with_reducible exact spec_l7Within.mono _ _ _)
   | (with_reducible exact LeO.refl _)
   | (with_reducible exact LeO.none _)
   | (with_reducible refine LeO.ite ?_ ?_)
   | (with_reducible refine LeO.bind ?_ (fun _ => ?_))
   | exact ih0 _ _ _ _
   | exact ih1 _ _ _ _
   | exact ih2 _ _ _ _ _ _ _ _ _ _
   | exact ih3 _ _ _ _ _ _ _ _ _ _
   | exact ih4 _ _ _ _ _ _ _ _ _ _
   | exact ih5 _ _ _ _ _ _ _ _ _ _
   | exact spec_SubsOk.mono _ _
   | exact spec_l7Has.mono _ _ _ _ _
   | exact spec_l7Screened.mono _ _ _ _
   | exact spec_l7Within.mono _ _ _
   | exact LeO.none _
   | refine LeO.ite ?_ ?_
   | refine LeO.bind ?_ (fun _ => ?_)
theorem spec_Route7.mono : ∀ a0 a1 a2 k, LeO (spec_Route7.f k a0 a1 a2) (spec_Route7.f (k + 1) a0 a1 a2) := by
 intro a0 a1 a2 k
 obtain ⟨ih0, ih1, ih2, ih3, ih4, ih5⟩ := spec_Route7.mono_l k
 unfold spec_Route7.f
 repeat' first
   | (with_reducible exact ih0 _ _ _ _)
   | (with_reducible exact ih1 _ _ _ _)
   | (with_reducible exact ih2 _ _ _ _ _ _ _ _ _ _)
   | (with_reducible exact ih3 _ _ _ _ _ _ _ _ _ _)
   | (with_reducible exact ih4 _ _ _ _ _ _ _ _ _ _)
   | (with_reducible exact ih5 _ _ _ _ _ _ _ _ _ _)
   | (with_reducible exact spec_SubsOk.mono _ _)
   | (with_reducible exact spec_l7Has.mono _ _ _ _ _)
   | (with_reducible exact spec_l7Screened.mono _ _ _ _)
   | (with_reducible exact spec_l7Within.mono _ _ _)
   | (with_reducible exact LeO.refl _)
   | (with_reducible exact LeO.none _)
   | (with_reducible refine LeO.ite ?_ ?_)
   | (with_reducible refine LeO.bind ?_ (fun _ => ?_))
   | exact ih0 _ _ _ _
   | exact ih1 _ _ _ _
   | exact ih2 _ _ _ _ _ _ _ _ _ _
   | exact ih3 _ _ _ _ _ _ _ _ _ _
   | exact ih4 _ _ _ _ _ _ _ _ _ _
   | exact ih5 _ _ _ _ _ _ _ _ _ _
   | exact spec_SubsOk.mono _ _
   | exact spec_l7Has.mono _ _ _ _ _
   | exact spec_l7Screened.mono _ _ _ _
   | exact spec_l7Within.mono _ _ _
   | exact LeO.none _
   | refine LeO.ite ?_ ?_
   | refine LeO.bind ?_ (fun _ => ?_)
set_option maxHeartbeats 8000000 in
set_option maxRecDepth 100000 in
theorem spec_Route7.calls (k : Nat) (A0 : Option Addr) (c0 : Nat) (l0 : List (S43)) (a1 : Int) (a2 : Int) (r1 : Int) (r2 : Int) (r3 : List Int) (w : World) (hr0 : Kd.C k43 w A0 l0.length l0) (hc0 : l0.length ≤ c0) (h : spec_Route7.f k l0 a1 a2 = some (r1, r2, r3)) :
  Calls Try.prog 10 #[.slice A0 l0.length c0, .int .i64 a1, .int .i64 a2] w fun e w' => ∃ v2_ : Value, e = .returned (.agg #[.int .i64 r1, .int .i64 r2, v2_]) ∧ Kd.R (Kd.int .i64) 3 w' w.heap.size (fun _ => True) v2_ r3 ∧ Below w.heap.size w w' := by
 have hu26 := Try.underlying26; have hu43 := Try.underlying43; have HR0 := Aside0.mk hr0; have HC0 := Aside0.mk hc0; clear hr0 hc0; have HB := Aside0.mk (Below.refl w.heap.size w)
 have H : ((spec_SubsOk.f k l0).bind fun t125 => (if t125 = true then ((spec_l1In.f a1 0 (wrap64 ((l0.length : Int) - 1))).bind fun t126 => (if t126 = true then ((spec_l1In.f a2 0 (wrap64 ((l0.length : Int) - 1))).bind fun t127 => (if t127 = true then (spec_Route7.j0 k l0 a1 a2 (a1 == a2)) else (spec_Route7.j0 k l0 a1 a2 true))) else (spec_Route7.j0 k l0 a1 a2 true))) else (spec_Route7.j0 k l0 a1 a2 true))) = some (r1, r2, r3) := h
 clear h; have HC4 := Aside0.mk H; clear H
 go_enter Try.func10, Try.ntmps10
 go_upto_region 1 with (first | ((with_reducible refine gate_dst (N := 6) rfl ?_); (try (refine gate_guard (by rfl) ?_; dsimp only)); refine box_event ?hg (N := 6) ?hd (cs := #[.int .i64 0, .int .i64 0, .slice none 0 0]) (t := 26) ?hr ?_; (case hd => rfl); (case hg => rfl); (case hr => first | (go_simp; done) | (go_simp; rfl)); intro gb124 hg w5 hbox hb; have n0_ := Aside0.mk (below_step belowNow hb); have n1_ := Aside0.mk (hbox); have n2_ := Aside0.mk ((by rw [hg]; exact (below_size belowNow) : w.heap.size ≤ gb124)); have n3_ := n2_; clear HB; have HB := n0_; have BK124 := n1_; have GW124 := n2_; have GE124 := n3_; clear n0_ n1_ n2_ n3_; clear hb hbox hg))
 (try simp only [Act.put, List.setIfInBounds_toArray, List.set_cons_zero, List.set_cons_succ])
 go_cut [35] (fun v35 wc => ∃ (kq : Nat) (x35_3 : Bool), v35 = .bool x35_3 ∧ Aside0 (spec_Route7.j0 kq l0 a1 a2 x35_3 = some (r1, r2, r3)) ∧ Aside0 (kq ≤ k) ∧ Aside0 (wc.heap[gb124]? = some (.cells #[.int .i64 0, .int .i64 0, (.slice none 0 0)] 26 (0, 0))) ∧ Aside0 (Below w.heap.size w wc))
 case first =>
  have H := HC4.out; clear HC4; replace H := Option.bind_eq_some_iff.mp H; obtain ⟨t125, A60, H⟩ := H
  replace H : (if t125 = true then ((spec_l1In.f a1 0 (wrap64 ((l0.length : Int) - 1))).bind fun t126 => (if t126 = true then ((spec_l1In.f a2 0 (wrap64 ((l0.length : Int) - 1))).bind fun t127 => (if t127 = true then (spec_Route7.j0 k l0 a1 a2 (a1 == a2)) else (spec_Route7.j0 k l0 a1 a2 true))) else (spec_Route7.j0 k l0 a1 a2 true))) else (spec_Route7.j0 k l0 a1 a2 true)) = some (r1, r2, r3) := H
  have A6 := Aside0.mk A60; clear A60
  by_cases c7 : t125 = true
  case neg =>
   replace c7 := Bool.eq_false_iff.mpr c7; subst c7
   have H1 : (spec_Route7.j0 k l0 a1 a2 true) = some (r1, r2, r3) := by rw [if_neg (show ¬ (false = true) by decide)] at H; exact H
   clear H; have H := H1; clear H1
   have H' := Aside0.mk H
   clear H
   go_wp2_with (first | ((with_reducible refine gate_callee (f := 22) rfl ?_); refine goesL_ (some 13) rfl rfl Try.func22 (by kernel_rfl) rfl #[.slice A0 l0.length c0] rfl (by (try simp only [List.map_toArray, List.map_cons, List.map_nil]); first | done | rfl | (simp only [List.length_drop, List.length_take]; rfl)) ?_; (with_reducible refine (spec_SubsOk.calls k _ _ l0 false _ ?side1 ?side2 A6.out).mono ?_); (case side1 => repeat (first | exact (Kd.C_below HR0.out HB.out) | (with_reducible refine Kd.C_alloc ?_ _) | (with_reducible refine Kd.C_drewN ?_ _) | (with_reducible refine Kd.C_drew ?_))); (case side2 => exact HC0.out); rintro e w15 ⟨rfl, hb⟩; refine ⟨_, rfl, ?_⟩; replace BK124 := Aside0.mk (blkStep (g := gb124) hb); replace HB := Aside0.mk (below_step belowNow hb); (try clear hb); (try clear hb2); (try clear hk); (try clear hi)))
   go_meet
   case rel => exact ⟨_, (true), (by first | rfl | (simp; done) | (simp [*]; done)), H', ⟨by first | omega | exact Nat.le_refl _⟩, ⟨by (with_reducible repeat (first | refine blk_drewN ?_ _ | refine blk_drew ?_ | refine blk_alloc ?_ _)); exact BK124.out⟩, ⟨belowNow⟩⟩
  subst c7
  have H1 : ((spec_l1In.f a1 0 (wrap64 ((l0.length : Int) - 1))).bind fun t126 => (if t126 = true then ((spec_l1In.f a2 0 (wrap64 ((l0.length : Int) - 1))).bind fun t127 => (if t127 = true then (spec_Route7.j0 k l0 a1 a2 (a1 == a2)) else (spec_Route7.j0 k l0 a1 a2 true))) else (spec_Route7.j0 k l0 a1 a2 true))) = some (r1, r2, r3) := by rw [if_pos rfl] at H; exact H
  clear H; have H := H1; clear H1; replace H := Option.bind_eq_some_iff.mp H; obtain ⟨t126, A80, H⟩ := H
  replace H : (if t126 = true then ((spec_l1In.f a2 0 (wrap64 ((l0.length : Int) - 1))).bind fun t127 => (if t127 = true then (spec_Route7.j0 k l0 a1 a2 (a1 == a2)) else (spec_Route7.j0 k l0 a1 a2 true))) else (spec_Route7.j0 k l0 a1 a2 true)) = some (r1, r2, r3) := H
  have A8 := Aside0.mk A80; clear A80
  by_cases c9 : t126 = true
  case neg =>
   replace c9 := Bool.eq_false_iff.mpr c9; subst c9
   have H1 : (spec_Route7.j0 k l0 a1 a2 true) = some (r1, r2, r3) := by rw [if_neg (show ¬ (false = true) by decide)] at H; exact H
   clear H; have H := H1; clear H1
   have H' := Aside0.mk H
   clear H
   go_wp2_with (first | ((with_reducible refine gate_callee (f := 22) rfl ?_); refine goesL_ (some 13) rfl rfl Try.func22 (by kernel_rfl) rfl #[.slice A0 l0.length c0] rfl (by (try simp only [List.map_toArray, List.map_cons, List.map_nil]); first | done | rfl | (simp only [List.length_drop, List.length_take]; rfl)) ?_; (with_reducible refine (spec_SubsOk.calls k _ _ l0 true _ ?side1 ?side2 A6.out).mono ?_); (case side1 => repeat (first | exact (Kd.C_below HR0.out HB.out) | (with_reducible refine Kd.C_alloc ?_ _) | (with_reducible refine Kd.C_drewN ?_ _) | (with_reducible refine Kd.C_drew ?_))); (case side2 => exact HC0.out); rintro e w14 ⟨rfl, hb⟩; refine ⟨_, rfl, ?_⟩; replace BK124 := Aside0.mk (blkStep (g := gb124) hb); replace HB := Aside0.mk (below_step belowNow hb); (try clear hb); (try clear hb2); (try clear hk); (try clear hi)) | (go_at_call 36; (with_reducible refine (spec_l1In.calls a1 0 (wrap64 ((l0.length : Int) - 1)) false _ A8.out).mono ?_); rintro e w' ⟨rfl, ⟨nd, rfl⟩⟩))
   go_meet
   case rel => exact ⟨_, (true), (by first | rfl | (simp; done) | (simp [*]; done)), H', ⟨by first | omega | exact Nat.le_refl _⟩, ⟨by (with_reducible repeat (first | refine blk_drewN ?_ _ | refine blk_drew ?_ | refine blk_alloc ?_ _)); exact BK124.out⟩, ⟨belowNow⟩⟩
  subst c9
  have H1 : ((spec_l1In.f a2 0 (wrap64 ((l0.length : Int) - 1))).bind fun t127 => (if t127 = true then (spec_Route7.j0 k l0 a1 a2 (a1 == a2)) else (spec_Route7.j0 k l0 a1 a2 true))) = some (r1, r2, r3) := by rw [if_pos rfl] at H; exact H
  clear H; have H := H1; clear H1; replace H := Option.bind_eq_some_iff.mp H; obtain ⟨t127, A100, H⟩ := H
  replace H : (if t127 = true then (spec_Route7.j0 k l0 a1 a2 (a1 == a2)) else (spec_Route7.j0 k l0 a1 a2 true)) = some (r1, r2, r3) := H
  have A10 := Aside0.mk A100; clear A100
  by_cases c11 : t127 = true
  case pos =>
   subst c11
   have H1 : (spec_Route7.j0 k l0 a1 a2 (a1 == a2)) = some (r1, r2, r3) := by rw [if_pos rfl] at H; exact H
   clear H; have H := H1; clear H1
   have H' := Aside0.mk H
   clear H
   go_wp2_with (first | ((with_reducible refine gate_callee (f := 22) rfl ?_); refine goesL_ (some 13) rfl rfl Try.func22 (by kernel_rfl) rfl #[.slice A0 l0.length c0] rfl (by (try simp only [List.map_toArray, List.map_cons, List.map_nil]); first | done | rfl | (simp only [List.length_drop, List.length_take]; rfl)) ?_; (with_reducible refine (spec_SubsOk.calls k _ _ l0 true _ ?side1 ?side2 A6.out).mono ?_); (case side1 => repeat (first | exact (Kd.C_below HR0.out HB.out) | (with_reducible refine Kd.C_alloc ?_ _) | (with_reducible refine Kd.C_drewN ?_ _) | (with_reducible refine Kd.C_drew ?_))); (case side2 => exact HC0.out); rintro e w12 ⟨rfl, hb⟩; refine ⟨_, rfl, ?_⟩; replace BK124 := Aside0.mk (blkStep (g := gb124) hb); replace HB := Aside0.mk (below_step belowNow hb); (try clear hb); (try clear hb2); (try clear hk); (try clear hi)) | (go_at_call 36; (with_reducible refine (spec_l1In.calls a1 0 (wrap64 ((l0.length : Int) - 1)) true _ A8.out).mono ?_); rintro e w' ⟨rfl, ⟨nd, rfl⟩⟩) | (go_at_call 36; (with_reducible refine (spec_l1In.calls a2 0 (wrap64 ((l0.length : Int) - 1)) true _ A10.out).mono ?_); rintro e w' ⟨rfl, ⟨nd, rfl⟩⟩))
   go_meet
   case rel => exact ⟨_, ((a1 == a2)), (by first | rfl | (simp; done) | (simp [*]; done)), H', ⟨by first | omega | exact Nat.le_refl _⟩, ⟨by (with_reducible repeat (first | refine blk_drewN ?_ _ | refine blk_drew ?_ | refine blk_alloc ?_ _)); exact BK124.out⟩, ⟨belowNow⟩⟩
  replace c11 := Bool.eq_false_iff.mpr c11; subst c11
  have H1 : (spec_Route7.j0 k l0 a1 a2 true) = some (r1, r2, r3) := by rw [if_neg (show ¬ (false = true) by decide)] at H; exact H
  clear H; have H := H1; clear H1
  have H' := Aside0.mk H
  clear H
  go_wp2_with (first | ((with_reducible refine gate_callee (f := 22) rfl ?_); refine goesL_ (some 13) rfl rfl Try.func22 (by kernel_rfl) rfl #[.slice A0 l0.length c0] rfl (by (try simp only [List.map_toArray, List.map_cons, List.map_nil]); first | done | rfl | (simp only [List.length_drop, List.length_take]; rfl)) ?_; (with_reducible refine (spec_SubsOk.calls k _ _ l0 true _ ?side1 ?side2 A6.out).mono ?_); (case side1 => repeat (first | exact (Kd.C_below HR0.out HB.out) | (with_reducible refine Kd.C_alloc ?_ _) | (with_reducible refine Kd.C_drewN ?_ _) | (with_reducible refine Kd.C_drew ?_))); (case side2 => exact HC0.out); rintro e w13 ⟨rfl, hb⟩; refine ⟨_, rfl, ?_⟩; replace BK124 := Aside0.mk (blkStep (g := gb124) hb); replace HB := Aside0.mk (below_step belowNow hb); (try clear hb); (try clear hb2); (try clear hk); (try clear hi)) | (go_at_call 36; (with_reducible refine (spec_l1In.calls a1 0 (wrap64 ((l0.length : Int) - 1)) true _ A8.out).mono ?_); rintro e w' ⟨rfl, ⟨nd, rfl⟩⟩) | (go_at_call 36; (with_reducible refine (spec_l1In.calls a2 0 (wrap64 ((l0.length : Int) - 1)) false _ A10.out).mono ?_); rintro e w' ⟨rfl, ⟨nd, rfl⟩⟩))
  go_meet
  case rel => exact ⟨_, (true), (by first | rfl | (simp; done) | (simp [*]; done)), H', ⟨by first | omega | exact Nat.le_refl _⟩, ⟨by (with_reducible repeat (first | refine blk_drewN ?_ _ | refine blk_drew ?_ | refine blk_alloc ?_ _)); exact BK124.out⟩, ⟨belowNow⟩⟩
 case rest =>
  clear HC4; (try clear c1); (try clear c2); (try clear p2); (try clear p6); (try clear c7); (try clear c9); (try clear c10); (try clear c11); obtain ⟨kq, x35_3, rfl, HA, HJ3, BK124, HB⟩ := hcut
  cases kq with
  | zero => exact absurd HA.out (by simp [spec_Route7.j0])
  | succ kj3 =>
   have H := HA.out; clear HA; simp only [spec_Route7.j0] at H
   by_cases c16 : x35_3 = true
   case pos =>
    subst c16
    have H1 : (some (8, (-1), ([] : List Int))) = some (r1, r2, r3) := by rw [if_pos rfl] at H; exact H
    clear H; have H := H1; clear H1; simp only [Option.some.injEq, Prod.mk.injEq] at H; obtain ⟨rfl, rfl, rfl⟩ := H; have hcz17_0 := cz3_ BK124.out 0 rfl; have hcz17_1 := cz3_ BK124.out 1 rfl; have hcz17_2 := cz3_ BK124.out 2 rfl; have hfz17_0 := blk_frozen BK124.out 0; have hfz17_1 := blk_frozen BK124.out 1; have hfz17_2 := blk_frozen BK124.out 2
    go_wp2
    refine bodyPost_ret (results_cell_row rfl _ _ gb124 26 #[.int .i64 8, .int .i64 (-1), .slice none 0 0] (0, 0) _ rfl (by (with_reducible repeat (first | refine blk_drewN ?_ _ | refine blk_drew ?_ | refine blk_alloc ?_ _)); refine blk_put (cs := #[.int .i64 8, .int .i64 (-1), .slice none 0 0]) ?_ 2 _ rfl; (with_reducible repeat (first | refine blk_drewN ?_ _ | refine blk_drew ?_ | refine blk_alloc ?_ _)); refine blk_put (cs := #[.int .i64 8, .int .i64 0, .slice none 0 0]) ?_ 1 _ rfl; (with_reducible repeat (first | refine blk_drewN ?_ _ | refine blk_drew ?_ | refine blk_alloc ?_ _)); refine blk_put (cs := #[.int .i64 0, .int .i64 0, .slice none 0 0]) ?_ 0 _ rfl; (with_reducible repeat (first | refine blk_drewN ?_ _ | refine blk_drew ?_ | refine blk_alloc ?_ _)); exact BK124.out) Try.underlying26 rfl (by kernel_rfl)) rfl ?_
    exact ⟨_, by first | rfl | (simp [errW_none, errW_some] <;> rfl) | (simp [*, errW_none, errW_some] <;> rfl), by first | exact Kd.R_nil _ _ _ _ _ | exact Kd.N_nil _ _ _ _ _ | exact Kd.V_nil _ _ _ _ _ | exact Kd.Q_nil _ _ _ _ _ | exact Kd.S_nil _ _ _ _ _, belowNow⟩
   replace c16 := Bool.eq_false_iff.mpr c16; subst c16
   have H1 : (if 0 ≤ a1 then (if a1 < (l0.length : Int) then ((spec_l7Has.f kj3 ((rd_T43 l0 a1).f0) ((rd_T43 l0 a1).f1) ((rd_T43 l0 a1).f2) 4).bind fun t129 => (if t129 ≥ 0 then (some (5, a1, ([] : List Int))) else (spec_Route7.l0 kj3 l0 a1 (([] : List Int)) a2))) else (none)) else (none)) = some (r1, r2, r3) := by rw [if_neg (show ¬ (false = true) by decide)] at H; exact H
   clear H; have H := H1; clear H1
   by_cases c18 : 0 ≤ a1
   case neg =>
    rw [if_neg c18] at H
    exact absurd H (by simp)

   rw [if_pos c18] at H; have c18b0 : decide (0 ≤ a1) = true := decide_eq_true c18; clear c18
   by_cases c19 : a1 < (l0.length : Int)
   case neg =>
    rw [if_neg c19] at H
    exact absurd H (by simp)
   rw [if_pos c19] at H; have c19b0 : decide (a1 < (l0.length : Int)) = true := decide_eq_true c19; clear c19; replace H := Option.bind_eq_some_iff.mp H; obtain ⟨t129, A200, H⟩ := H
   replace H : (if t129 ≥ 0 then (some (5, a1, ([] : List Int))) else (spec_Route7.l0 kj3 l0 a1 (([] : List Int)) a2)) = some (r1, r2, r3) := H
   have A20 := Aside0.mk A200; clear A200
   by_cases c21 : t129 ≥ 0
   case pos =>
    rw [if_pos c21] at H; have c21b0 : decide (0 ≤ t129) = true := decide_eq_true c21; clear c21; simp only [Option.some.injEq, Prod.mk.injEq] at H; obtain ⟨rfl, rfl, rfl⟩ := H
    have p128 : 0 ≤ (a1 : Int) := of_decide_eq_true (by first | (with_reducible assumption) | assumption)
    have q128 : a1 < (l0.length : Int) := of_decide_eq_true (by first | (with_reducible assumption) | assumption)
    obtain ⟨ad128, A128_2, c128_2, e128, hx128_0, hx128_1, hx128_2, hl128_2, hi128_2⟩ := at_T43 HR0.out a1 p128 q128
    cases e128
    replace hx128_0 := (HB.out.cell (World.block_lt_of_cell? w _ hx128_0)).trans hx128_0; replace hx128_1 := (HB.out.cell (World.block_lt_of_cell? w _ hx128_1)).trans hx128_1; replace hx128_2 := (HB.out.cell (World.block_lt_of_cell? w _ hx128_2)).trans hx128_2; have HR128_2 := Aside0.mk hi128_2; have HC128_2 := Aside0.mk hl128_2; clear hi128_2 hl128_2; replace p128 := eq_true p128; replace q128 := eq_true q128
    go_wp2_with (first | ((with_reducible refine gate_callee (f := 37) rfl ?_); refine goesL_ (some 41) rfl rfl Try.func37 (by kernel_rfl) rfl #[.agg #[.bool ((rd_T43 l0 a1).f0), .bool ((rd_T43 l0 a1).f1), .slice A128_2 ((rd_T43 l0 a1).f2).length c128_2], .int .i64 4] rfl (by (try simp only [List.map_toArray, List.map_cons, List.map_nil]); first | done | rfl | (simp only [List.length_drop, List.length_take]; rfl)) ?_; (with_reducible refine (spec_l7Has.calls kj3 ((rd_T43 l0 a1).f0) ((rd_T43 l0 a1).f1) _ _ ((rd_T43 l0 a1).f2) 4 t129 _ ?side1 ?side2 A20.out).mono ?_); (case side1 => repeat (first | exact (Kd.C_below HR128_2.out HB.out) | (with_reducible refine Kd.C_alloc ?_ _) | (with_reducible refine Kd.C_drewN ?_ _) | (with_reducible refine Kd.C_drew ?_))); (case side2 => exact HC128_2.out); rintro e w22 ⟨rfl, hb⟩; refine ⟨_, rfl, ?_⟩; replace BK124 := Aside0.mk (blkStep (g := gb124) hb); replace HB := Aside0.mk (below_step belowNow hb); (try clear hb); (try clear hb2); (try clear hk); (try clear hi); have hcz23_0 := cz3_ BK124.out 0 rfl; have hcz23_1 := cz3_ BK124.out 1 rfl; have hcz23_2 := cz3_ BK124.out 2 rfl; have hfz23_0 := blk_frozen BK124.out 0; have hfz23_1 := blk_frozen BK124.out 1; have hfz23_2 := blk_frozen BK124.out 2))
    refine bodyPost_ret (results_cell_row rfl _ _ gb124 26 #[.int .i64 5, .int .i64 a1, .slice none 0 0] (0, 0) _ rfl (by (with_reducible repeat (first | refine blk_drewN ?_ _ | refine blk_drew ?_ | refine blk_alloc ?_ _)); refine blk_put (cs := #[.int .i64 5, .int .i64 a1, .slice none 0 0]) ?_ 2 _ rfl; (with_reducible repeat (first | refine blk_drewN ?_ _ | refine blk_drew ?_ | refine blk_alloc ?_ _)); refine blk_put (cs := #[.int .i64 5, .int .i64 0, .slice none 0 0]) ?_ 1 _ rfl; (with_reducible repeat (first | refine blk_drewN ?_ _ | refine blk_drew ?_ | refine blk_alloc ?_ _)); refine blk_put (cs := #[.int .i64 0, .int .i64 0, .slice none 0 0]) ?_ 0 _ rfl; (with_reducible repeat (first | refine blk_drewN ?_ _ | refine blk_drew ?_ | refine blk_alloc ?_ _)); exact BK124.out) Try.underlying26 rfl (by kernel_rfl)) rfl ?_
    exact ⟨_, by first | rfl | (simp [errW_none, errW_some] <;> rfl) | (simp [*, errW_none, errW_some] <;> rfl), by first | exact Kd.R_nil _ _ _ _ _ | exact Kd.N_nil _ _ _ _ _ | exact Kd.V_nil _ _ _ _ _ | exact Kd.Q_nil _ _ _ _ _ | exact Kd.S_nil _ _ _ _ _, belowNow⟩
   rw [if_neg c21] at H; have c21b0 : decide (0 ≤ t129) = false := decide_eq_false c21; clear c21; obtain ⟨y130, hy130⟩ : ∃ y_ : List Int, y_ = (([] : List Int)) := ⟨_, rfl⟩
   replace H : (spec_Route7.l0 kj3 l0 a1 y130 a2) = some (r1, r2, r3) := by first | (rw [hy130]; with_reducible exact H) | (have H2_ := (Option.bind_some _ _).symm.trans H; rw [hy130]; with_reducible exact H2_) | (have H2_ := (Option.bind_some _ _).symm.trans H; with_reducible exact H2_) | with_reducible exact H | (rw [hy130]; exact H) | exact H
   have Ny130 := Aside0.mk hy130; clear hy130
   have H' := Aside0.mk H
   clear H
   have p128 : 0 ≤ (a1 : Int) := of_decide_eq_true (by first | (with_reducible assumption) | assumption)
   have q128 : a1 < (l0.length : Int) := of_decide_eq_true (by first | (with_reducible assumption) | assumption)
   obtain ⟨ad128, A128_2, c128_2, e128, hx128_0, hx128_1, hx128_2, hl128_2, hi128_2⟩ := at_T43 HR0.out a1 p128 q128
   cases e128
   replace hx128_0 := (HB.out.cell (World.block_lt_of_cell? w _ hx128_0)).trans hx128_0; replace hx128_1 := (HB.out.cell (World.block_lt_of_cell? w _ hx128_1)).trans hx128_1; replace hx128_2 := (HB.out.cell (World.block_lt_of_cell? w _ hx128_2)).trans hx128_2; have HR128_2 := Aside0.mk hi128_2; have HC128_2 := Aside0.mk hl128_2; clear hi128_2 hl128_2; replace p128 := eq_true p128; replace q128 := eq_true q128
   go_wp2_with (first | ((with_reducible refine gate_callee (f := 37) rfl ?_); refine goesL_ (some 41) rfl rfl Try.func37 (by kernel_rfl) rfl #[.agg #[.bool ((rd_T43 l0 a1).f0), .bool ((rd_T43 l0 a1).f1), .slice A128_2 ((rd_T43 l0 a1).f2).length c128_2], .int .i64 4] rfl (by (try simp only [List.map_toArray, List.map_cons, List.map_nil]); first | done | rfl | (simp only [List.length_drop, List.length_take]; rfl)) ?_; (with_reducible refine (spec_l7Has.calls kj3 ((rd_T43 l0 a1).f0) ((rd_T43 l0 a1).f1) _ _ ((rd_T43 l0 a1).f2) 4 t129 _ ?side1 ?side2 A20.out).mono ?_); (case side1 => repeat (first | exact (Kd.C_below HR128_2.out HB.out) | (with_reducible refine Kd.C_alloc ?_ _) | (with_reducible refine Kd.C_drewN ?_ _) | (with_reducible refine Kd.C_drew ?_))); (case side2 => exact HC128_2.out); rintro e w24 ⟨rfl, hb⟩; refine ⟨_, rfl, ?_⟩; replace BK124 := Aside0.mk (blkStep (g := gb124) hb); replace HB := Aside0.mk (below_step belowNow hb); (try clear hb); (try clear hb2); (try clear hk); (try clear hi)) | ((with_reducible refine gate_dst (N := 45) rfl ?_); (try (refine gate_guard (by rfl) ?_; dsimp only)); refine Kd.R_lit (Kd.int .i64) _ 3 ?hg (N := 45) ?hd (xs := ([] : List Int)) (inner := []) (ok := fun _ => True) (okp := fun _ => True) ?hr ?hp (fun _ hk => hk) trivial (Below.refl _ _) (Nat.le_refl _) (by simp) ?_; (case hd => rfl); (case hg => rfl); (case hr => first | (go_simp; done) | (go_simp; rfl)); (case hp => exact (Reps.none _ _)); intro v131 w25 ho26 hb hg_ hnew_; clear hg_ hnew_; (first | rw [← Ny130.out] at ho26 | (simp only [Int.reduceToNat] at ho26; rw [← Ny130.out] at ho26)); have HO132 := Aside0.mk (Kd.R_lower ho26 (below_size belowNow)); replace BK124 := Aside0.mk (blkStep (g := gb124) hb); replace HB := Aside0.mk (below_step belowNow hb); clear hb ho26))
   go_loopg [7, 8] kj3 (fun kq v7 v8 w' => ∃ (x7_2 : List Int) (x8_2 : Int) (x125000_2 : Int) (x125001_2 : Int), v8 = .int .i64 x8_2 ∧ Aside0 (spec_Route7.l0 kq l0 a1 x7_2 x8_2 = some (r1, r2, r3)) ∧ Aside0 (kq ≤ kj3) ∧ Aside0 (Kd.R (Kd.int .i64) 3 w' w.heap.size (fun _ => True) v7 x7_2) ∧ Aside0 (w'.heap[gb124]? = some (.cells #[.int .i64 x125000_2, .int .i64 x125001_2, (.slice none 0 0)] 26 (0, 0))) ∧ Aside0 (Below w.heap.size w w'))
   case atStart => exact ⟨(y130), (a2), (0), (0), (by first | rfl | (simp; done) | (simp [*]; done)), H', ⟨Nat.le_refl _⟩, ⟨by (with_reducible repeat (first | apply Kd.R_alloc | apply Kd.R_drewN | apply Kd.R_drew)); exact HO132.out⟩, ⟨by (with_reducible repeat (first | refine blk_drewN ?_ _ | refine blk_drew ?_ | refine blk_alloc ?_ _)); exact BK124.out⟩, ⟨belowNow⟩⟩
   case round =>
    clear H'
    (try clear c1); (try clear p1); (try clear q1); (try clear hx1); (try clear c2); (try clear p2); (try clear c3); (try clear p6); (try clear c7); (try clear c9); (try clear c10); (try clear c11); (try clear c12); (try clear p12); (try clear q12); (try clear hx12); (try clear c16); (try clear c18); (try clear c18b0); (try clear c19); (try clear c19b0); (try clear c21); (try clear c21b0); (try clear c22); (try clear hcz17_0 hcz17_1 hcz17_2); (try clear hcz23_0 hcz23_1 hcz23_2); (try clear hfz17_0 hfz17_1 hfz17_2); (try clear hfz23_0 hfz23_1 hfz23_2); (try clear hx128_0); (try clear hx128_1); (try clear hx128_2); (try clear p128); (try clear p2); (try clear p6); (try clear q128); obtain ⟨x7_2, x8_2, x125000_2, x125001_2, rfl, HA, HK2, HO_7, BK124, HB⟩ := hrel
    cases gk with
    | zero => exact absurd HA.out (by simp [spec_Route7.l0])
    | succ k2 =>
     have H := HA.out; clear HA; simp only [spec_Route7.l0] at H
     by_cases c27 : 0 ≤ x8_2
     case neg =>
      rw [if_neg c27] at H
      exact absurd H (by simp)
     rw [if_pos c27] at H; have c27b0 : decide (0 ≤ x8_2) = true := decide_eq_true c27; clear c27
     by_cases c28 : x8_2 < (l0.length : Int)
     case neg =>
      rw [if_neg c28] at H
      exact absurd H (by simp)
     rw [if_pos c28] at H; have c28b0 : decide (x8_2 < (l0.length : Int)) = true := decide_eq_true c28; clear c28; have HC29 := Aside0.mk H; clear H
     have p133 : 0 ≤ (x8_2 : Int) := of_decide_eq_true (by first | (with_reducible assumption) | assumption)
     have q133 : x8_2 < (l0.length : Int) := of_decide_eq_true (by first | (with_reducible assumption) | assumption)
     obtain ⟨ad133, A133_2, c133_2, e133, hx133_0, hx133_1, hx133_2, hl133_2, hi133_2⟩ := at_T43 HR0.out x8_2 p133 q133
     obtain rfl : ad128 = ad133 := (by injection e133)
     replace hx133_0 := (HB.out.cell (World.block_lt_of_cell? w _ hx133_0)).trans hx133_0; replace hx133_1 := (HB.out.cell (World.block_lt_of_cell? w _ hx133_1)).trans hx133_1; replace hx133_2 := (HB.out.cell (World.block_lt_of_cell? w _ hx133_2)).trans hx133_2; have HR133_2 := Aside0.mk hi133_2; have HC133_2 := Aside0.mk hl133_2; clear hi133_2 hl133_2; replace p133 := eq_true p133; replace q133 := eq_true q133
     go_upto_region 9 with (first | ((with_reducible refine gate_dst (N := 9) rfl ?_); (try (refine gate_guard (by rfl) ?_; dsimp only)); refine box_event ?hg (N := 9) ?hd (cs := #[.bool false, .bool false, .slice none 0 0]) (t := 43) ?hr ?_; (case hd => rfl); (case hg => rfl); (case hr => first | (go_simp; done) | (go_simp; rfl)); intro gb134 hg w30 hbox hb; have n0_ := Aside0.mk (Kd.R_below (pR_ HO_7.out) hb); have n1_ := Aside0.mk (blkStep (g := gb124) hb); have n2_ := Aside0.mk (below_step belowNow hb); have n3_ := Aside0.mk (hbox); have n4_ := Aside0.mk ((by rw [hg]; exact (below_size belowNow) : w.heap.size ≤ gb134)); have n5_ := n4_; have n6_ := Aside0.mk ((by rw [hg]; exact Nat.ne_of_lt (blkLt (g := gb124)) : gb124 ≠ gb134)); have n7_ := Aside0.mk ((by rw [hg]; exact Nat.ne_of_gt (blkLt (g := gb124)) : gb134 ≠ gb124)); clear HO_7; clear BK124; clear HB; have HO_7 := n0_; have BK124 := n1_; have HB := n2_; have BK134 := n3_; have GW134 := n4_; have GE134 := n5_; have NB124_134 := n6_; have NB134_124 := n7_; clear n0_ n1_ n2_ n3_ n4_ n5_ n6_ n7_; clear hb hbox hg; have ⟨hnb31, hnc31⟩ := nn3_ NB134_124.out; have hcz32_0 := cz3_ BK134.out 0 rfl; have hcz32_1 := cz3_ BK134.out 1 rfl; have hcz32_2 := cz3_ BK134.out 2 rfl; have hfz32_0 := blk_frozen BK134.out 0; have hfz32_1 := blk_frozen BK134.out 1; have hfz32_2 := blk_frozen BK134.out 2))
     (try simp only [Act.put, List.setIfInBounds_toArray, List.set_cons_zero, List.set_cons_succ])
     go_cut [51] (fun v51 wc => ∃ (kq : Nat) (x51_28 : Bool), v51 = .bool x51_28 ∧ Aside0 (spec_Route7.j2 kq l0 a1 x7_2 x8_2 (-1) 1 x51_28 ((rd_T43 l0 x8_2).f0) ((rd_T43 l0 x8_2).f1) ((rd_T43 l0 x8_2).f2) = some (r1, r2, r3)) ∧ Aside0 (kq ≤ k2) ∧ Aside0 (Kd.R (Kd.int .i64) 3 wc w.heap.size (fun _ => True) u7 x7_2) ∧ Aside0 (wc.heap[gb124]? = some (.cells #[.int .i64 x125000_2, .int .i64 x125001_2, (.slice none 0 0)] 26 (0, 0))) ∧ Aside0 (wc.heap[gb134]? = some (.cells #[.bool ((rd_T43 l0 x8_2).f0), .bool ((rd_T43 l0 x8_2).f1), (.slice A133_2 ((rd_T43 l0 x8_2).f2).length c133_2)] 43 (0, 0))) ∧ Aside0 (Below w.heap.size w wc))
     case first =>
      have H := HC29.out; clear HC29
      by_cases c33 : x8_2 = a1
      case pos =>
       rw [if_pos c33] at H; have c33b0 : (x8_2 == a1) = true := beq_iff_eq.mpr c33; have c33b1 : (x8_2 != a1) = false := bne_eq_false_iff_eq.mpr c33; clear c33
       (first | rw [c33b0] | (simp only [i64_w, i32_w]; rw [c33b0]) | (rw [c33b2]; try simp only [Bool.not_false, Bool.not_true]) | skip)
       have H' := Aside0.mk H
       clear H
       go_wp2
       go_meet
       case rel => exact ⟨_, (true), (by first | rfl | (simp; done) | (simp [*]; done)), H', ⟨by have := HJ3.out; have := HK2.out; first | omega | exact Nat.le_refl _⟩, ⟨by (with_reducible repeat (first | apply Kd.R_alloc | apply Kd.R_drewN | apply Kd.R_drew)); exact Kd.R_mono (Kd.R_far (p := ⟨gb134, 2, none⟩) (Kd.R_far (p := ⟨gb134, 1, none⟩) (Kd.R_far (p := ⟨gb134, 0, none⟩) (Kd.R_types HO_7.out BK134.out (by decide)) (fun _ hk => hk.2) (.bool ((rd_T43 l0 x8_2).f0))) (fun _ hk => hk.2) (.bool ((rd_T43 l0 x8_2).f1))) (fun _ hk => hk.2) (.slice A133_2 ((rd_T43 l0 x8_2).f2).length c133_2)) (fun _ hk => trivial)⟩, ⟨blkFars⟩, ⟨by (with_reducible repeat (first | refine blk_drewN ?_ _ | refine blk_drew ?_ | refine blk_alloc ?_ _)); refine blk_put (cs := #[.bool ((rd_T43 l0 x8_2).f0), .bool ((rd_T43 l0 x8_2).f1), .slice none 0 0]) ?_ 2 _ rfl; (with_reducible repeat (first | refine blk_drewN ?_ _ | refine blk_drew ?_ | refine blk_alloc ?_ _)); refine blk_put (cs := #[.bool ((rd_T43 l0 x8_2).f0), .bool false, .slice none 0 0]) ?_ 1 _ rfl; (with_reducible repeat (first | refine blk_drewN ?_ _ | refine blk_drew ?_ | refine blk_alloc ?_ _)); refine blk_put (cs := #[.bool false, .bool false, .slice none 0 0]) ?_ 0 _ rfl; (with_reducible repeat (first | refine blk_drewN ?_ _ | refine blk_drew ?_ | refine blk_alloc ?_ _)); exact BK134.out⟩, ⟨belowNow⟩⟩
      rw [if_neg c33] at H; have c33b0 : (x8_2 == a1) = false := beq_eq_false_iff_ne.mpr c33; have c33b1 : (x8_2 != a1) = true := bne_iff_ne.mpr c33
      (first | rw [c33b0] | (simp only [i64_w, i32_w]; rw [c33b0]) | (rw [c33b2]; try simp only [Bool.not_false, Bool.not_true]) | skip)
      replace H := Option.bind_eq_some_iff.mp H; obtain ⟨t135, A340, H⟩ := H
      replace H : (if t135 = true then (spec_Route7.j2 k2 l0 a1 x7_2 x8_2 (-1) 1 true ((rd_T43 l0 x8_2).f0) ((rd_T43 l0 x8_2).f1) ((rd_T43 l0 x8_2).f2)) else (spec_Route7.j2 k2 l0 a1 x7_2 x8_2 (-1) 1 (decide ((x7_2.length : Int) > 5)) ((rd_T43 l0 x8_2).f0) ((rd_T43 l0 x8_2).f1) ((rd_T43 l0 x8_2).f2))) = some (r1, r2, r3) := H
      have A34 := Aside0.mk A340; clear A340
      by_cases c35 : t135 = true
      case pos =>
       subst c35
       have H1 : (spec_Route7.j2 k2 l0 a1 x7_2 x8_2 (-1) 1 true ((rd_T43 l0 x8_2).f0) ((rd_T43 l0 x8_2).f1) ((rd_T43 l0 x8_2).f2)) = some (r1, r2, r3) := by rw [if_pos rfl] at H; exact H
       clear H; have H := H1; clear H1
       have H' := Aside0.mk H
       clear H; obtain ⟨Ao36, co36, eo36⟩ := Kd.R_slice HO_7.out; subst eo36
       go_wp2_with (first | (go_at_call 38; (with_reducible refine (spec_l7Within.calls k2 _ _ x7_2 x8_2 true _ ?side1 ?side2 A34.out).mono ?_); (case side1 => refine (Kd.R_reads' (e := 3) (base := w.heap.size) (ok := fun k_ => True) (n := x7_2.length) (c := co36) ?_).2.2; exact (by (with_reducible repeat (first | apply Kd.R_alloc | apply Kd.R_drewN | apply Kd.R_drew)); exact (Kd.R_mono (Kd.R_far (p := ⟨gb134, 2, none⟩) (Kd.R_far (p := ⟨gb134, 1, none⟩) (Kd.R_far (p := ⟨gb134, 0, none⟩) (Kd.R_types HO_7.out BK134.out (by decide)) (fun _ hk => hk.2) (.bool ((rd_T43 l0 x8_2).f0))) (fun _ hk => hk.2) (.bool ((rd_T43 l0 x8_2).f1))) (fun _ hk => hk.2) (.slice A133_2 ((rd_T43 l0 x8_2).f2).length c133_2)) (fun _ h_ => h_.1)))); (case side2 => exact (Kd.R_reads' HO_7.out).2.1); rintro e w' ⟨rfl, ⟨nd, rfl⟩⟩))
       go_meet
       case rel => exact ⟨_, (true), (by first | rfl | (simp; done) | (simp [*]; done)), H', ⟨by have := HJ3.out; have := HK2.out; first | omega | exact Nat.le_refl _⟩, ⟨by (with_reducible repeat (first | apply Kd.R_alloc | apply Kd.R_drewN | apply Kd.R_drew)); exact Kd.R_mono (Kd.R_far (p := ⟨gb134, 2, none⟩) (Kd.R_far (p := ⟨gb134, 1, none⟩) (Kd.R_far (p := ⟨gb134, 0, none⟩) (Kd.R_types HO_7.out BK134.out (by decide)) (fun _ hk => hk.2) (.bool ((rd_T43 l0 x8_2).f0))) (fun _ hk => hk.2) (.bool ((rd_T43 l0 x8_2).f1))) (fun _ hk => hk.2) (.slice A133_2 ((rd_T43 l0 x8_2).f2).length c133_2)) (fun _ hk => trivial)⟩, ⟨blkFars⟩, ⟨by (with_reducible repeat (first | refine blk_drewN ?_ _ | refine blk_drew ?_ | refine blk_alloc ?_ _)); refine blk_put (cs := #[.bool ((rd_T43 l0 x8_2).f0), .bool ((rd_T43 l0 x8_2).f1), .slice none 0 0]) ?_ 2 _ rfl; (with_reducible repeat (first | refine blk_drewN ?_ _ | refine blk_drew ?_ | refine blk_alloc ?_ _)); refine blk_put (cs := #[.bool ((rd_T43 l0 x8_2).f0), .bool false, .slice none 0 0]) ?_ 1 _ rfl; (with_reducible repeat (first | refine blk_drewN ?_ _ | refine blk_drew ?_ | refine blk_alloc ?_ _)); refine blk_put (cs := #[.bool false, .bool false, .slice none 0 0]) ?_ 0 _ rfl; (with_reducible repeat (first | refine blk_drewN ?_ _ | refine blk_drew ?_ | refine blk_alloc ?_ _)); exact BK134.out⟩, ⟨belowNow⟩⟩
      replace c35 := Bool.eq_false_iff.mpr c35; subst c35
      have H1 : (spec_Route7.j2 k2 l0 a1 x7_2 x8_2 (-1) 1 (decide ((x7_2.length : Int) > 5)) ((rd_T43 l0 x8_2).f0) ((rd_T43 l0 x8_2).f1) ((rd_T43 l0 x8_2).f2)) = some (r1, r2, r3) := by rw [if_neg (show ¬ (false = true) by decide)] at H; exact H
      clear H; have H := H1; clear H1
      have H' := Aside0.mk H
      clear H; obtain ⟨Ao37, co37, eo37⟩ := Kd.R_slice HO_7.out; subst eo37
      go_wp2_with (first | (go_at_call 38; (with_reducible refine (spec_l7Within.calls k2 _ _ x7_2 x8_2 false _ ?side1 ?side2 A34.out).mono ?_); (case side1 => refine (Kd.R_reads' (e := 3) (base := w.heap.size) (ok := fun k_ => True) (n := x7_2.length) (c := co37) ?_).2.2; exact (by (with_reducible repeat (first | apply Kd.R_alloc | apply Kd.R_drewN | apply Kd.R_drew)); exact (Kd.R_mono (Kd.R_far (p := ⟨gb134, 2, none⟩) (Kd.R_far (p := ⟨gb134, 1, none⟩) (Kd.R_far (p := ⟨gb134, 0, none⟩) (Kd.R_types HO_7.out BK134.out (by decide)) (fun _ hk => hk.2) (.bool ((rd_T43 l0 x8_2).f0))) (fun _ hk => hk.2) (.bool ((rd_T43 l0 x8_2).f1))) (fun _ hk => hk.2) (.slice A133_2 ((rd_T43 l0 x8_2).f2).length c133_2)) (fun _ h_ => h_.1)))); (case side2 => exact (Kd.R_reads' HO_7.out).2.1); rintro e w' ⟨rfl, ⟨nd, rfl⟩⟩))
      go_meet
      case rel => exact ⟨_, (decide ((x7_2.length : Int) > 5)), (by first | rfl | (simp; done) | (simp [*]; done)), H', ⟨by have := HJ3.out; have := HK2.out; first | omega | exact Nat.le_refl _⟩, ⟨by (with_reducible repeat (first | apply Kd.R_alloc | apply Kd.R_drewN | apply Kd.R_drew)); exact Kd.R_mono (Kd.R_far (p := ⟨gb134, 2, none⟩) (Kd.R_far (p := ⟨gb134, 1, none⟩) (Kd.R_far (p := ⟨gb134, 0, none⟩) (Kd.R_types HO_7.out BK134.out (by decide)) (fun _ hk => hk.2) (.bool ((rd_T43 l0 x8_2).f0))) (fun _ hk => hk.2) (.bool ((rd_T43 l0 x8_2).f1))) (fun _ hk => hk.2) (.slice A133_2 ((rd_T43 l0 x8_2).f2).length c133_2)) (fun _ hk => trivial)⟩, ⟨blkFars⟩, ⟨by (with_reducible repeat (first | refine blk_drewN ?_ _ | refine blk_drew ?_ | refine blk_alloc ?_ _)); refine blk_put (cs := #[.bool ((rd_T43 l0 x8_2).f0), .bool ((rd_T43 l0 x8_2).f1), .slice none 0 0]) ?_ 2 _ rfl; (with_reducible repeat (first | refine blk_drewN ?_ _ | refine blk_drew ?_ | refine blk_alloc ?_ _)); refine blk_put (cs := #[.bool ((rd_T43 l0 x8_2).f0), .bool false, .slice none 0 0]) ?_ 1 _ rfl; (with_reducible repeat (first | refine blk_drewN ?_ _ | refine blk_drew ?_ | refine blk_alloc ?_ _)); refine blk_put (cs := #[.bool false, .bool false, .slice none 0 0]) ?_ 0 _ rfl; (with_reducible repeat (first | refine blk_drewN ?_ _ | refine blk_drew ?_ | refine blk_alloc ?_ _)); exact BK134.out⟩, ⟨belowNow⟩⟩
     case rest =>
      clear HC29; (try clear c1); (try clear p1); (try clear q1); (try clear hx1); (try clear c2); (try clear p2); (try clear c3); (try clear p6); (try clear c7); (try clear c9); (try clear c10); (try clear c11); (try clear c12); (try clear p12); (try clear q12); (try clear hx12); (try clear c13); (try clear p13); (try clear q13); (try clear hx13); (try clear c16); (try clear c18); (try clear c18b0); (try clear c19); (try clear c19b0); (try clear c21); (try clear c21b0); (try clear c22); (try clear c27); (try clear c27b0); (try clear c28); (try clear c28b0); (try clear c31); (try clear c33); (try clear c33b0); (try clear c33b1); (try clear c35); (try clear c37); (try clear hcz17_0 hcz17_1 hcz17_2); (try clear hcz23_0 hcz23_1 hcz23_2); (try clear hcz32_0 hcz32_1 hcz32_2); (try clear hfz17_0 hfz17_1 hfz17_2); (try clear hfz23_0 hfz23_1 hfz23_2); (try clear hfz32_0 hfz32_1 hfz32_2); (try clear hx128_0); (try clear hx128_1); (try clear hx128_2); (try clear hx133_0); (try clear hx133_1); (try clear hx133_2); (try clear p1); (try clear p12); (try clear p128); (try clear p133); (try clear p2); (try clear p6); (try clear q1); (try clear q12); (try clear q128); (try clear q133); obtain ⟨kq, x51_28, rfl, HA, HJ28, HO_7, BK124, BK134, HB⟩ := hcut
      cases kq with
      | zero => exact absurd HA.out (by simp [spec_Route7.j2])
      | succ kj28 =>
       have H := HA.out; clear HA; simp only [spec_Route7.j2] at H
       by_cases c38 : x51_28 = true
       case pos =>
        subst c38
        have H1 : (if (-1) < 0 then (some (7, x8_2, x7_2)) else (if x7_2.length < 17592186044416 then (spec_Route7.l0 kj28 l0 a1 (x7_2 ++ [x8_2]) (-1)) else (none))) = some (r1, r2, r3) := by rw [if_pos rfl] at H; exact H
        clear H; have H := H1; clear H1
        by_cases c39 : (-1) < 0
        case neg => exact absurd (by decide) c39
        rw [if_pos c39] at H; have c39b0 : decide ((-1) < 0) = true := decide_eq_true c39; clear c39; simp only [Option.some.injEq, Prod.mk.injEq] at H; obtain ⟨rfl, rfl, rfl⟩ := H; obtain ⟨Ao40, co40, eo40⟩ := Kd.R_slice HO_7.out; subst eo40; have ⟨hnb41, hnc41⟩ := nn3_ NB124_134.out; have hcz42_0 := cz3_ BK124.out 0 rfl; have hcz42_1 := cz3_ BK124.out 1 rfl; have hcz42_2 := cz3_ BK124.out 2 rfl; have hfz42_0 := blk_frozen BK124.out 0; have hfz42_1 := blk_frozen BK124.out 1; have hfz42_2 := blk_frozen BK124.out 2
        go_wp2
        refine bodyPost_ret (results_cell_row rfl _ _ gb124 26 #[.int .i64 7, .int .i64 x8_2, .slice Ao40 x7_2.length co40] (0, 0) _ rfl (by (with_reducible repeat (first | refine blk_drewN ?_ _ | refine blk_drew ?_ | refine blk_alloc ?_ _)); refine blk_put (cs := #[.int .i64 7, .int .i64 x8_2, .slice none 0 0]) ?_ 2 _ rfl; (with_reducible repeat (first | refine blk_drewN ?_ _ | refine blk_drew ?_ | refine blk_alloc ?_ _)); refine blk_put (cs := #[.int .i64 7, .int .i64 x125001_2, .slice none 0 0]) ?_ 1 _ rfl; (with_reducible repeat (first | refine blk_drewN ?_ _ | refine blk_drew ?_ | refine blk_alloc ?_ _)); refine blk_put (cs := #[.int .i64 x125000_2, .int .i64 x125001_2, .slice none 0 0]) ?_ 0 _ rfl; (with_reducible repeat (first | refine blk_drewN ?_ _ | refine blk_drew ?_ | refine blk_alloc ?_ _)); exact BK124.out) Try.underlying26 rfl (by kernel_rfl)) rfl ?_
        exact ⟨_, by first | rfl | (simp [errW_none, errW_some] <;> rfl) | (simp [*, errW_none, errW_some] <;> rfl), by (with_reducible repeat (first | apply Kd.R_alloc | apply Kd.R_drewN | apply Kd.R_drew)); exact Kd.R_mono (Kd.R_far (p := ⟨gb124, 2, none⟩) (Kd.R_far (p := ⟨gb124, 1, none⟩) (Kd.R_far (p := ⟨gb124, 0, none⟩) (Kd.R_types HO_7.out BK124.out (by decide)) (fun _ hk => hk.2) (.int .i64 7)) (fun _ hk => hk.2) (.int .i64 x8_2)) (fun _ hk => hk.2) (.slice Ao40 x7_2.length co40)) (fun _ hk => trivial), belowNow⟩
       replace c38 := Bool.eq_false_iff.mpr c38; subst c38
       have H1 : ((spec_l7Screened.f kj28 l0 a1 x8_2).bind fun t139 => (if t139 = true then (if (-1) < 0 then (some (6, x8_2, x7_2)) else (if x7_2.length < 17592186044416 then (spec_Route7.l0 kj28 l0 a1 (x7_2 ++ [x8_2]) (-1)) else (none))) else ((spec_l7Has.f kj28 ((rd_T43 l0 x8_2).f0) ((rd_T43 l0 x8_2).f1) ((rd_T43 l0 x8_2).f2) 1).bind fun t143 => (if t143 ≥ 0 then ((spec_l7Has.f kj28 ((rd_T43 l0 x8_2).f0) ((rd_T43 l0 x8_2).f1) ((rd_T43 l0 x8_2).f2) 1).bind fun t144 => (if t144 < 0 then (some (1, x8_2, x7_2)) else (if x7_2.length < 17592186044416 then (spec_Route7.l0 kj28 l0 a1 (x7_2 ++ [x8_2]) t144) else (none)))) else (if ((rd_T43 l0 x8_2).f0) = true then ((spec_l7Has.f kj28 ((rd_T43 l0 x8_2).f0) ((rd_T43 l0 x8_2).f1) ((rd_T43 l0 x8_2).f2) 6).bind fun t148 => (spec_Route7.j3 kj28 l0 a1 x7_2 x8_2 (-1) 1 (decide (t148 ≥ 0)) ((rd_T43 l0 x8_2).f0) ((rd_T43 l0 x8_2).f1) ((rd_T43 l0 x8_2).f2))) else (spec_Route7.j3 kj28 l0 a1 x7_2 x8_2 (-1) 1 false ((rd_T43 l0 x8_2).f0) ((rd_T43 l0 x8_2).f1) ((rd_T43 l0 x8_2).f2))))))) = some (r1, r2, r3) := by rw [if_neg (show ¬ (false = true) by decide)] at H; exact H
       clear H; have H := H1; clear H1; replace H := Option.bind_eq_some_iff.mp H; obtain ⟨t139, A450, H⟩ := H
       replace H : (if t139 = true then (if (-1) < 0 then (some (6, x8_2, x7_2)) else (if x7_2.length < 17592186044416 then (spec_Route7.l0 kj28 l0 a1 (x7_2 ++ [x8_2]) (-1)) else (none))) else ((spec_l7Has.f kj28 ((rd_T43 l0 x8_2).f0) ((rd_T43 l0 x8_2).f1) ((rd_T43 l0 x8_2).f2) 1).bind fun t143 => (if t143 ≥ 0 then ((spec_l7Has.f kj28 ((rd_T43 l0 x8_2).f0) ((rd_T43 l0 x8_2).f1) ((rd_T43 l0 x8_2).f2) 1).bind fun t144 => (if t144 < 0 then (some (1, x8_2, x7_2)) else (if x7_2.length < 17592186044416 then (spec_Route7.l0 kj28 l0 a1 (x7_2 ++ [x8_2]) t144) else (none)))) else (if ((rd_T43 l0 x8_2).f0) = true then ((spec_l7Has.f kj28 ((rd_T43 l0 x8_2).f0) ((rd_T43 l0 x8_2).f1) ((rd_T43 l0 x8_2).f2) 6).bind fun t148 => (spec_Route7.j3 kj28 l0 a1 x7_2 x8_2 (-1) 1 (decide (t148 ≥ 0)) ((rd_T43 l0 x8_2).f0) ((rd_T43 l0 x8_2).f1) ((rd_T43 l0 x8_2).f2))) else (spec_Route7.j3 kj28 l0 a1 x7_2 x8_2 (-1) 1 false ((rd_T43 l0 x8_2).f0) ((rd_T43 l0 x8_2).f1) ((rd_T43 l0 x8_2).f2)))))) = some (r1, r2, r3) := H
       have A45 := Aside0.mk A450; clear A450
       by_cases c46 : t139 = true
       case pos =>
        subst c46
        have H1 : (if (-1) < 0 then (some (6, x8_2, x7_2)) else (if x7_2.length < 17592186044416 then (spec_Route7.l0 kj28 l0 a1 (x7_2 ++ [x8_2]) (-1)) else (none))) = some (r1, r2, r3) := by rw [if_pos rfl] at H; exact H
        clear H; have H := H1; clear H1
        by_cases c47 : (-1) < 0
        case neg => exact absurd (by decide) c47
        rw [if_pos c47] at H; have c47b0 : decide ((-1) < 0) = true := decide_eq_true c47; clear c47; simp only [Option.some.injEq, Prod.mk.injEq] at H; obtain ⟨rfl, rfl, rfl⟩ := H
        go_wp2_with (first | ((with_reducible refine gate_callee (f := 39) rfl ?_); refine goesL_ (some 69) rfl rfl Try.func39 (by kernel_rfl) rfl #[.slice (some ad128) l0.length c0, .int .i64 a1, .int .i64 x8_2] rfl (by (try simp only [List.map_toArray, List.map_cons, List.map_nil]); first | done | rfl | (simp only [List.length_drop, List.length_take]; rfl)) ?_; (with_reducible refine (spec_l7Screened.calls kj28 _ _ l0 a1 x8_2 true _ ?side1 ?side2 A45.out).mono ?_); (case side1 => repeat (first | exact (Kd.C_below HR0.out HB.out) | (with_reducible refine Kd.C_alloc ?_ _) | (with_reducible refine Kd.C_drewN ?_ _) | (with_reducible refine Kd.C_drew ?_))); (case side2 => exact HC0.out); rintro e w48 ⟨rfl, hb⟩; refine ⟨_, rfl, ?_⟩; replace HO_7 := Aside0.mk (Kd.R_below (pR_ HO_7.out) hb); replace BK124 := Aside0.mk (blkStep (g := gb124) hb); replace BK134 := Aside0.mk (blkStep (g := gb134) hb); replace HB := Aside0.mk (below_step belowNow hb); (try clear hb); (try clear hb2); (try clear hk); (try clear hi); obtain ⟨Ao49, co49, eo49⟩ := Kd.R_slice HO_7.out; subst eo49; have ⟨hnb50, hnc50⟩ := nn3_ NB124_134.out; have hcz51_0 := cz3_ BK124.out 0 rfl; have hcz51_1 := cz3_ BK124.out 1 rfl; have hcz51_2 := cz3_ BK124.out 2 rfl; have hfz51_0 := blk_frozen BK124.out 0; have hfz51_1 := blk_frozen BK124.out 1; have hfz51_2 := blk_frozen BK124.out 2))
        refine bodyPost_ret (results_cell_row rfl _ _ gb124 26 #[.int .i64 6, .int .i64 x8_2, .slice Ao49 x7_2.length co49] (0, 0) _ rfl (by (with_reducible repeat (first | refine blk_drewN ?_ _ | refine blk_drew ?_ | refine blk_alloc ?_ _)); refine blk_put (cs := #[.int .i64 6, .int .i64 x8_2, .slice none 0 0]) ?_ 2 _ rfl; (with_reducible repeat (first | refine blk_drewN ?_ _ | refine blk_drew ?_ | refine blk_alloc ?_ _)); refine blk_put (cs := #[.int .i64 6, .int .i64 x125001_2, .slice none 0 0]) ?_ 1 _ rfl; (with_reducible repeat (first | refine blk_drewN ?_ _ | refine blk_drew ?_ | refine blk_alloc ?_ _)); refine blk_put (cs := #[.int .i64 x125000_2, .int .i64 x125001_2, .slice none 0 0]) ?_ 0 _ rfl; (with_reducible repeat (first | refine blk_drewN ?_ _ | refine blk_drew ?_ | refine blk_alloc ?_ _)); exact BK124.out) Try.underlying26 rfl (by kernel_rfl)) rfl ?_
        exact ⟨_, by first | rfl | (simp [errW_none, errW_some] <;> rfl) | (simp [*, errW_none, errW_some] <;> rfl), by (with_reducible repeat (first | apply Kd.R_alloc | apply Kd.R_drewN | apply Kd.R_drew)); exact Kd.R_mono (Kd.R_far (p := ⟨gb124, 2, none⟩) (Kd.R_far (p := ⟨gb124, 1, none⟩) (Kd.R_far (p := ⟨gb124, 0, none⟩) (Kd.R_types HO_7.out BK124.out (by decide)) (fun _ hk => hk.2) (.int .i64 6)) (fun _ hk => hk.2) (.int .i64 x8_2)) (fun _ hk => hk.2) (.slice Ao49 x7_2.length co49)) (fun _ hk => trivial), belowNow⟩
       replace c46 := Bool.eq_false_iff.mpr c46; subst c46
       have H1 : ((spec_l7Has.f kj28 ((rd_T43 l0 x8_2).f0) ((rd_T43 l0 x8_2).f1) ((rd_T43 l0 x8_2).f2) 1).bind fun t143 => (if t143 ≥ 0 then ((spec_l7Has.f kj28 ((rd_T43 l0 x8_2).f0) ((rd_T43 l0 x8_2).f1) ((rd_T43 l0 x8_2).f2) 1).bind fun t144 => (if t144 < 0 then (some (1, x8_2, x7_2)) else (if x7_2.length < 17592186044416 then (spec_Route7.l0 kj28 l0 a1 (x7_2 ++ [x8_2]) t144) else (none)))) else (if ((rd_T43 l0 x8_2).f0) = true then ((spec_l7Has.f kj28 ((rd_T43 l0 x8_2).f0) ((rd_T43 l0 x8_2).f1) ((rd_T43 l0 x8_2).f2) 6).bind fun t148 => (spec_Route7.j3 kj28 l0 a1 x7_2 x8_2 (-1) 1 (decide (t148 ≥ 0)) ((rd_T43 l0 x8_2).f0) ((rd_T43 l0 x8_2).f1) ((rd_T43 l0 x8_2).f2))) else (spec_Route7.j3 kj28 l0 a1 x7_2 x8_2 (-1) 1 false ((rd_T43 l0 x8_2).f0) ((rd_T43 l0 x8_2).f1) ((rd_T43 l0 x8_2).f2))))) = some (r1, r2, r3) := by rw [if_neg (show ¬ (false = true) by decide)] at H; exact H
       clear H; have H := H1; clear H1; replace H := Option.bind_eq_some_iff.mp H; obtain ⟨t143, A550, H⟩ := H
       replace H : (if t143 ≥ 0 then ((spec_l7Has.f kj28 ((rd_T43 l0 x8_2).f0) ((rd_T43 l0 x8_2).f1) ((rd_T43 l0 x8_2).f2) 1).bind fun t144 => (if t144 < 0 then (some (1, x8_2, x7_2)) else (if x7_2.length < 17592186044416 then (spec_Route7.l0 kj28 l0 a1 (x7_2 ++ [x8_2]) t144) else (none)))) else (if ((rd_T43 l0 x8_2).f0) = true then ((spec_l7Has.f kj28 ((rd_T43 l0 x8_2).f0) ((rd_T43 l0 x8_2).f1) ((rd_T43 l0 x8_2).f2) 6).bind fun t148 => (spec_Route7.j3 kj28 l0 a1 x7_2 x8_2 (-1) 1 (decide (t148 ≥ 0)) ((rd_T43 l0 x8_2).f0) ((rd_T43 l0 x8_2).f1) ((rd_T43 l0 x8_2).f2))) else (spec_Route7.j3 kj28 l0 a1 x7_2 x8_2 (-1) 1 false ((rd_T43 l0 x8_2).f0) ((rd_T43 l0 x8_2).f1) ((rd_T43 l0 x8_2).f2)))) = some (r1, r2, r3) := H
       have A55 := Aside0.mk A550; clear A550
       by_cases c56 : t143 ≥ 0
       case pos =>
        rw [if_pos c56] at H; have c56b0 : decide (0 ≤ t143) = true := decide_eq_true c56; clear c56; replace H := Option.bind_eq_some_iff.mp H; obtain ⟨t144, A570, H⟩ := H
        replace H : (if t144 < 0 then (some (1, x8_2, x7_2)) else (if x7_2.length < 17592186044416 then (spec_Route7.l0 kj28 l0 a1 (x7_2 ++ [x8_2]) t144) else (none))) = some (r1, r2, r3) := H
        have A57 := Aside0.mk A570; clear A570
        by_cases c58 : t144 < 0
        case pos =>
         rw [if_pos c58] at H; have c58b0 : decide (t144 < 0) = true := decide_eq_true c58; clear c58; simp only [Option.some.injEq, Prod.mk.injEq] at H; obtain ⟨rfl, rfl, rfl⟩ := H
         go_wp2_with (first | ((with_reducible refine gate_callee (f := 39) rfl ?_); refine goesL_ (some 69) rfl rfl Try.func39 (by kernel_rfl) rfl #[.slice (some ad128) l0.length c0, .int .i64 a1, .int .i64 x8_2] rfl (by (try simp only [List.map_toArray, List.map_cons, List.map_nil]); first | done | rfl | (simp only [List.length_drop, List.length_take]; rfl)) ?_; (with_reducible refine (spec_l7Screened.calls kj28 _ _ l0 a1 x8_2 false _ ?side1 ?side2 A45.out).mono ?_); (case side1 => repeat (first | exact (Kd.C_below HR0.out HB.out) | (with_reducible refine Kd.C_alloc ?_ _) | (with_reducible refine Kd.C_drewN ?_ _) | (with_reducible refine Kd.C_drew ?_))); (case side2 => exact HC0.out); rintro e w59 ⟨rfl, hb⟩; refine ⟨_, rfl, ?_⟩; replace HO_7 := Aside0.mk (Kd.R_below (pR_ HO_7.out) hb); replace BK124 := Aside0.mk (blkStep (g := gb124) hb); replace BK134 := Aside0.mk (blkStep (g := gb134) hb); replace HB := Aside0.mk (below_step belowNow hb); (try clear hb); (try clear hb2); (try clear hk); (try clear hi); have ⟨hnb60, hnc60⟩ := nn3_ NB134_124.out; have hcz61_0 := cz3_ BK134.out 0 rfl; have hcz61_1 := cz3_ BK134.out 1 rfl; have hcz61_2 := cz3_ BK134.out 2 rfl; have hfz61_0 := blk_frozen BK134.out 0; have hfz61_1 := blk_frozen BK134.out 1; have hfz61_2 := blk_frozen BK134.out 2) | ((with_reducible refine gate_callee (f := 37) rfl ?_); refine goesL_ (some 72) rfl rfl Try.func37 (by kernel_rfl) rfl #[.agg #[.bool ((rd_T43 l0 x8_2).f0), .bool ((rd_T43 l0 x8_2).f1), .slice A133_2 ((rd_T43 l0 x8_2).f2).length c133_2], .int .i64 1] rfl (by (try simp only [List.map_toArray, List.map_cons, List.map_nil]); first | done | rfl | (simp only [List.length_drop, List.length_take]; rfl)) ?_; (with_reducible refine (spec_l7Has.calls kj28 ((rd_T43 l0 x8_2).f0) ((rd_T43 l0 x8_2).f1) _ _ ((rd_T43 l0 x8_2).f2) 1 t143 _ ?side1 ?side2 A55.out).mono ?_); (case side1 => repeat (first | exact (Kd.C_below HR133_2.out HB.out) | (with_reducible refine Kd.C_alloc ?_ _) | (with_reducible refine Kd.C_drewN ?_ _) | (with_reducible refine Kd.C_drew ?_))); (case side2 => exact HC133_2.out); rintro e w62 ⟨rfl, hb⟩; refine ⟨_, rfl, ?_⟩; replace HO_7 := Aside0.mk (Kd.R_below (pR_ HO_7.out) hb); replace BK124 := Aside0.mk (blkStep (g := gb124) hb); replace BK134 := Aside0.mk (blkStep (g := gb134) hb); replace HB := Aside0.mk (below_step belowNow hb); (try clear hb); (try clear hb2); (try clear hk); (try clear hi); have hcz63_0 := cz3_ BK134.out 0 rfl; have hcz63_1 := cz3_ BK134.out 1 rfl; have hcz63_2 := cz3_ BK134.out 2 rfl; have hfz63_0 := blk_frozen BK134.out 0; have hfz63_1 := blk_frozen BK134.out 1; have hfz63_2 := blk_frozen BK134.out 2) | ((with_reducible refine gate_callee (f := 37) rfl ?_); refine goesL_ (some 75) rfl rfl Try.func37 (by kernel_rfl) rfl #[.agg #[.bool ((rd_T43 l0 x8_2).f0), .bool ((rd_T43 l0 x8_2).f1), .slice A133_2 ((rd_T43 l0 x8_2).f2).length c133_2], .int .i64 1] rfl (by (try simp only [List.map_toArray, List.map_cons, List.map_nil]); first | done | rfl | (simp only [List.length_drop, List.length_take]; rfl)) ?_; (with_reducible refine (spec_l7Has.calls kj28 ((rd_T43 l0 x8_2).f0) ((rd_T43 l0 x8_2).f1) _ _ ((rd_T43 l0 x8_2).f2) 1 t144 _ ?side1 ?side2 A57.out).mono ?_); (case side1 => repeat (first | exact (Kd.C_below HR133_2.out HB.out) | (with_reducible refine Kd.C_alloc ?_ _) | (with_reducible refine Kd.C_drewN ?_ _) | (with_reducible refine Kd.C_drew ?_))); (case side2 => exact HC133_2.out); rintro e w64 ⟨rfl, hb⟩; refine ⟨_, rfl, ?_⟩; replace HO_7 := Aside0.mk (Kd.R_below (pR_ HO_7.out) hb); replace BK124 := Aside0.mk (blkStep (g := gb124) hb); replace BK134 := Aside0.mk (blkStep (g := gb134) hb); replace HB := Aside0.mk (below_step belowNow hb); (try clear hb); (try clear hb2); (try clear hk); (try clear hi); obtain ⟨Ao65, co65, eo65⟩ := Kd.R_slice HO_7.out; subst eo65; have hcz66_0 := cz3_ BK124.out 0 rfl; have hcz66_1 := cz3_ BK124.out 1 rfl; have hcz66_2 := cz3_ BK124.out 2 rfl; have hfz66_0 := blk_frozen BK124.out 0; have hfz66_1 := blk_frozen BK124.out 1; have hfz66_2 := blk_frozen BK124.out 2))
         refine bodyPost_ret (results_cell_row rfl _ _ gb124 26 #[.int .i64 1, .int .i64 x8_2, .slice Ao65 x7_2.length co65] (0, 0) _ rfl (by (with_reducible repeat (first | refine blk_drewN ?_ _ | refine blk_drew ?_ | refine blk_alloc ?_ _)); refine blk_put (cs := #[.int .i64 1, .int .i64 x8_2, .slice none 0 0]) ?_ 2 _ rfl; (with_reducible repeat (first | refine blk_drewN ?_ _ | refine blk_drew ?_ | refine blk_alloc ?_ _)); refine blk_put (cs := #[.int .i64 1, .int .i64 x125001_2, .slice none 0 0]) ?_ 1 _ rfl; (with_reducible repeat (first | refine blk_drewN ?_ _ | refine blk_drew ?_ | refine blk_alloc ?_ _)); refine blk_put (cs := #[.int .i64 x125000_2, .int .i64 x125001_2, .slice none 0 0]) ?_ 0 _ rfl; (with_reducible repeat (first | refine blk_drewN ?_ _ | refine blk_drew ?_ | refine blk_alloc ?_ _)); exact BK124.out) Try.underlying26 rfl (by kernel_rfl)) rfl ?_
         exact ⟨_, by first | rfl | (simp [errW_none, errW_some] <;> rfl) | (simp [*, errW_none, errW_some] <;> rfl), by (with_reducible repeat (first | apply Kd.R_alloc | apply Kd.R_drewN | apply Kd.R_drew)); exact Kd.R_mono (Kd.R_far (p := ⟨gb124, 2, none⟩) (Kd.R_far (p := ⟨gb124, 1, none⟩) (Kd.R_far (p := ⟨gb124, 0, none⟩) (Kd.R_types HO_7.out BK124.out (by decide)) (fun _ hk => hk.2) (.int .i64 1)) (fun _ hk => hk.2) (.int .i64 x8_2)) (fun _ hk => hk.2) (.slice Ao65 x7_2.length co65)) (fun _ hk => trivial), belowNow⟩
        rw [if_neg c58] at H; have c58b0 : decide (t144 < 0) = false := decide_eq_false c58; clear c58
        by_cases c67 : x7_2.length < 17592186044416
        case neg =>
         rw [if_neg c67] at H
         exact absurd H (by simp)
        rw [if_pos c67] at H; have LMc67 := Aside0.mk c67; clear c67; obtain ⟨y145, hy145⟩ : ∃ y_ : List Int, y_ = (x7_2 ++ [x8_2]) := ⟨_, rfl⟩
        replace H : (spec_Route7.l0 kj28 l0 a1 y145 t144) = some (r1, r2, r3) := by first | (rw [hy145]; with_reducible exact H) | (have H2_ := (Option.bind_some _ _).symm.trans H; rw [hy145]; with_reducible exact H2_) | (have H2_ := (Option.bind_some _ _).symm.trans H; with_reducible exact H2_) | with_reducible exact H | (rw [hy145]; exact H) | exact H
        have Ny145 := Aside0.mk hy145; clear hy145
        have H' := Aside0.mk H
        clear H
        go_wp2_with (first | ((with_reducible refine gate_callee (f := 39) rfl ?_); refine goesL_ (some 69) rfl rfl Try.func39 (by kernel_rfl) rfl #[.slice (some ad128) l0.length c0, .int .i64 a1, .int .i64 x8_2] rfl (by (try simp only [List.map_toArray, List.map_cons, List.map_nil]); first | done | rfl | (simp only [List.length_drop, List.length_take]; rfl)) ?_; (with_reducible refine (spec_l7Screened.calls kj28 _ _ l0 a1 x8_2 false _ ?side1 ?side2 A45.out).mono ?_); (case side1 => repeat (first | exact (Kd.C_below HR0.out HB.out) | (with_reducible refine Kd.C_alloc ?_ _) | (with_reducible refine Kd.C_drewN ?_ _) | (with_reducible refine Kd.C_drew ?_))); (case side2 => exact HC0.out); rintro e w68 ⟨rfl, hb⟩; refine ⟨_, rfl, ?_⟩; replace HO_7 := Aside0.mk (Kd.R_below (pR_ HO_7.out) hb); replace BK124 := Aside0.mk (blkStep (g := gb124) hb); replace BK134 := Aside0.mk (blkStep (g := gb134) hb); replace HB := Aside0.mk (below_step belowNow hb); (try clear hb); (try clear hb2); (try clear hk); (try clear hi); have ⟨hnb69, hnc69⟩ := nn3_ NB134_124.out; have hcz70_0 := cz3_ BK134.out 0 rfl; have hcz70_1 := cz3_ BK134.out 1 rfl; have hcz70_2 := cz3_ BK134.out 2 rfl; have hfz70_0 := blk_frozen BK134.out 0; have hfz70_1 := blk_frozen BK134.out 1; have hfz70_2 := blk_frozen BK134.out 2) | ((with_reducible refine gate_callee (f := 37) rfl ?_); refine goesL_ (some 72) rfl rfl Try.func37 (by kernel_rfl) rfl #[.agg #[.bool ((rd_T43 l0 x8_2).f0), .bool ((rd_T43 l0 x8_2).f1), .slice A133_2 ((rd_T43 l0 x8_2).f2).length c133_2], .int .i64 1] rfl (by (try simp only [List.map_toArray, List.map_cons, List.map_nil]); first | done | rfl | (simp only [List.length_drop, List.length_take]; rfl)) ?_; (with_reducible refine (spec_l7Has.calls kj28 ((rd_T43 l0 x8_2).f0) ((rd_T43 l0 x8_2).f1) _ _ ((rd_T43 l0 x8_2).f2) 1 t143 _ ?side1 ?side2 A55.out).mono ?_); (case side1 => repeat (first | exact (Kd.C_below HR133_2.out HB.out) | (with_reducible refine Kd.C_alloc ?_ _) | (with_reducible refine Kd.C_drewN ?_ _) | (with_reducible refine Kd.C_drew ?_))); (case side2 => exact HC133_2.out); rintro e w71 ⟨rfl, hb⟩; refine ⟨_, rfl, ?_⟩; replace HO_7 := Aside0.mk (Kd.R_below (pR_ HO_7.out) hb); replace BK124 := Aside0.mk (blkStep (g := gb124) hb); replace BK134 := Aside0.mk (blkStep (g := gb134) hb); replace HB := Aside0.mk (below_step belowNow hb); (try clear hb); (try clear hb2); (try clear hk); (try clear hi); have hcz72_0 := cz3_ BK134.out 0 rfl; have hcz72_1 := cz3_ BK134.out 1 rfl; have hcz72_2 := cz3_ BK134.out 2 rfl; have hfz72_0 := blk_frozen BK134.out 0; have hfz72_1 := blk_frozen BK134.out 1; have hfz72_2 := blk_frozen BK134.out 2) | ((with_reducible refine gate_callee (f := 37) rfl ?_); refine goesL_ (some 75) rfl rfl Try.func37 (by kernel_rfl) rfl #[.agg #[.bool ((rd_T43 l0 x8_2).f0), .bool ((rd_T43 l0 x8_2).f1), .slice A133_2 ((rd_T43 l0 x8_2).f2).length c133_2], .int .i64 1] rfl (by (try simp only [List.map_toArray, List.map_cons, List.map_nil]); first | done | rfl | (simp only [List.length_drop, List.length_take]; rfl)) ?_; (with_reducible refine (spec_l7Has.calls kj28 ((rd_T43 l0 x8_2).f0) ((rd_T43 l0 x8_2).f1) _ _ ((rd_T43 l0 x8_2).f2) 1 t144 _ ?side1 ?side2 A57.out).mono ?_); (case side1 => repeat (first | exact (Kd.C_below HR133_2.out HB.out) | (with_reducible refine Kd.C_alloc ?_ _) | (with_reducible refine Kd.C_drewN ?_ _) | (with_reducible refine Kd.C_drew ?_))); (case side2 => exact HC133_2.out); rintro e w73 ⟨rfl, hb⟩; refine ⟨_, rfl, ?_⟩; replace HO_7 := Aside0.mk (Kd.R_below (pR_ HO_7.out) hb); replace BK124 := Aside0.mk (blkStep (g := gb124) hb); replace BK134 := Aside0.mk (blkStep (g := gb134) hb); replace HB := Aside0.mk (below_step belowNow hb); (try clear hb); (try clear hb2); (try clear hk); (try clear hi)) | ((with_reducible refine gate_builtin (b := .append) (xs := #[.tmp 116, .tmp 118]) rfl ?_); (try (refine gate_guard (by rfl) ?_; dsimp only)); at_builtin; refine Kd.R_append (Kd.int .i64) (w0 := w) w.heap.size rfl (.tmp 116) (.tmp 118) 24 3 (.int .i64 0) 8 rfl Try.underlying24 info3 rfl (by decide) (by omega) u7 x7_2 x8_2 [.int .i64 x8_2] (fun _ => True) (fun _ => False) rfl rfl ?aP (fun _ hk => hk.elim) ?aF ?aO ?aB ?aS ?aL ?_; (case aP => exact rfl); (case aB => exact belowNow); (case aF => exact (fun _ _ => trivial)); (case aO => exact (pR_ HO_7.out)); (case aS => exact (below_size belowNow)); (case aL => have := LMc67.out; omega); intro v146 w74 ho hb hg hat; rw [← Ny145.out] at ho; have n0_ := Aside0.mk (blk_grown (g := gb124) (o := .cells #[.int .i64 x125000_2, .int .i64 x125001_2, .slice none 0 0] 26 (0, 0)) blkNow hg (Kd.R_ne HO_7.out BK124.out (by decide))); have n1_ := Aside0.mk (blk_grown (g := gb134) (o := .cells #[.bool ((rd_T43 l0 x8_2).f0), .bool ((rd_T43 l0 x8_2).f1), .slice A133_2 ((rd_T43 l0 x8_2).f2).length c133_2] 43 (0, 0)) blkNow hg (Kd.R_ne HO_7.out BK134.out (by decide))); have n2_ := Aside0.mk (hb); have n3_ := Aside0.mk (ho); clear BK124; clear BK134; clear HB; clear HO_7; have BK124 := n0_; have BK134 := n1_; have HB := n2_; have HO147 := n3_; clear n0_ n1_ n2_ n3_; clear ho hb hg hat))
        go_roundg kj28
        case measure => have := HJ3.out; have := HK2.out; have := HJ28.out; omega
        case rel => exact ⟨(y145), (t144), (x125000_2), (x125001_2), (by first | rfl | (simp; done) | (simp [*]; done)), H', ⟨by have := HJ3.out; have := HK2.out; have := HJ28.out; omega⟩, ⟨by (with_reducible repeat (first | apply Kd.R_alloc | apply Kd.R_drewN | apply Kd.R_drew)); exact HO147.out⟩, ⟨by (with_reducible repeat (first | refine blk_drewN ?_ _ | refine blk_drew ?_ | refine blk_alloc ?_ _)); exact BK124.out⟩, ⟨belowNow⟩⟩
       rw [if_neg c56] at H; have c56b0 : decide (0 ≤ t143) = false := decide_eq_false c56; clear c56; have HC75 := Aside0.mk H; clear H
       go_upto_region 15 with (first | ((with_reducible refine gate_callee (f := 39) rfl ?_); refine goesL_ (some 69) rfl rfl Try.func39 (by kernel_rfl) rfl #[.slice (some ad128) l0.length c0, .int .i64 a1, .int .i64 x8_2] rfl (by (try simp only [List.map_toArray, List.map_cons, List.map_nil]); first | done | rfl | (simp only [List.length_drop, List.length_take]; rfl)) ?_; (with_reducible refine (spec_l7Screened.calls kj28 _ _ l0 a1 x8_2 false _ ?side1 ?side2 A45.out).mono ?_); (case side1 => repeat (first | exact (Kd.C_below HR0.out HB.out) | (with_reducible refine Kd.C_alloc ?_ _) | (with_reducible refine Kd.C_drewN ?_ _) | (with_reducible refine Kd.C_drew ?_))); (case side2 => exact HC0.out); rintro e w76 ⟨rfl, hb⟩; refine ⟨_, rfl, ?_⟩; replace HO_7 := Aside0.mk (Kd.R_below (pR_ HO_7.out) hb); replace BK124 := Aside0.mk (blkStep (g := gb124) hb); replace BK134 := Aside0.mk (blkStep (g := gb134) hb); replace HB := Aside0.mk (below_step belowNow hb); (try clear hb); (try clear hb2); (try clear hk); (try clear hi); have ⟨hnb77, hnc77⟩ := nn3_ NB134_124.out; have hcz78_0 := cz3_ BK134.out 0 rfl; have hcz78_1 := cz3_ BK134.out 1 rfl; have hcz78_2 := cz3_ BK134.out 2 rfl; have hfz78_0 := blk_frozen BK134.out 0; have hfz78_1 := blk_frozen BK134.out 1; have hfz78_2 := blk_frozen BK134.out 2) | ((with_reducible refine gate_callee (f := 37) rfl ?_); refine goesL_ (some 72) rfl rfl Try.func37 (by kernel_rfl) rfl #[.agg #[.bool ((rd_T43 l0 x8_2).f0), .bool ((rd_T43 l0 x8_2).f1), .slice A133_2 ((rd_T43 l0 x8_2).f2).length c133_2], .int .i64 1] rfl (by (try simp only [List.map_toArray, List.map_cons, List.map_nil]); first | done | rfl | (simp only [List.length_drop, List.length_take]; rfl)) ?_; (with_reducible refine (spec_l7Has.calls kj28 ((rd_T43 l0 x8_2).f0) ((rd_T43 l0 x8_2).f1) _ _ ((rd_T43 l0 x8_2).f2) 1 t143 _ ?side1 ?side2 A55.out).mono ?_); (case side1 => repeat (first | exact (Kd.C_below HR133_2.out HB.out) | (with_reducible refine Kd.C_alloc ?_ _) | (with_reducible refine Kd.C_drewN ?_ _) | (with_reducible refine Kd.C_drew ?_))); (case side2 => exact HC133_2.out); rintro e w79 ⟨rfl, hb⟩; refine ⟨_, rfl, ?_⟩; replace HO_7 := Aside0.mk (Kd.R_below (pR_ HO_7.out) hb); replace BK124 := Aside0.mk (blkStep (g := gb124) hb); replace BK134 := Aside0.mk (blkStep (g := gb134) hb); replace HB := Aside0.mk (below_step belowNow hb); (try clear hb); (try clear hb2); (try clear hk); (try clear hi)))
       (try simp only [Act.put, List.setIfInBounds_toArray, List.set_cons_zero, List.set_cons_succ])
       go_cut [76] (fun v76 wc => ∃ (kq : Nat) (x76_74 : Bool), v76 = .bool x76_74 ∧ Aside0 (spec_Route7.j3 kq l0 a1 x7_2 x8_2 (-1) 1 x76_74 ((rd_T43 l0 x8_2).f0) ((rd_T43 l0 x8_2).f1) ((rd_T43 l0 x8_2).f2) = some (r1, r2, r3)) ∧ Aside0 (kq ≤ kj28) ∧ Aside0 (Kd.R (Kd.int .i64) 3 wc w.heap.size (fun _ => True) u7 x7_2) ∧ Aside0 (wc.heap[gb124]? = some (.cells #[.int .i64 x125000_2, .int .i64 x125001_2, (.slice none 0 0)] 26 (0, 0))) ∧ Aside0 (wc.heap[gb134]? = some (.cells #[.bool ((rd_T43 l0 x8_2).f0), .bool ((rd_T43 l0 x8_2).f1), (.slice A133_2 ((rd_T43 l0 x8_2).f2).length c133_2)] 43 (0, 0))) ∧ Aside0 (Below w.heap.size w wc))
       case first =>
        have H := HC75.out; clear HC75
        by_cases c80 : ((rd_T43 l0 x8_2).f0) = true
        case neg =>
         rw [if_neg c80] at H
         have c80b0 : ((rd_T43 l0 x8_2).f0) = false := by simpa using c80
         clear c80
         (first | rw [c80b0] | (simp only [i64_w, i32_w]; rw [c80b0]) | (rw [c80b2]; try simp only [Bool.not_false, Bool.not_true]) | skip)
         have H' := Aside0.mk H
         clear H; have ⟨hnb85, hnc85⟩ := nn3_ NB134_124.out; have hcz86_0 := cz3_ BK134.out 0 rfl; have hcz86_1 := cz3_ BK134.out 1 rfl; have hcz86_2 := cz3_ BK134.out 2 rfl; have hfz86_0 := blk_frozen BK134.out 0; have hfz86_1 := blk_frozen BK134.out 1; have hfz86_2 := blk_frozen BK134.out 2
         go_wp2
         go_meet
         case rel => exact ⟨_, (false), (by first | rfl | (simp; done) | (simp [*]; done)), H', ⟨by have := HJ3.out; have := HK2.out; have := HJ28.out; first | omega | exact Nat.le_refl _⟩, ⟨by (with_reducible repeat (first | apply Kd.R_alloc | apply Kd.R_drewN | apply Kd.R_drew)); exact HO_7.out⟩, ⟨by (with_reducible repeat (first | refine blk_drewN ?_ _ | refine blk_drew ?_ | refine blk_alloc ?_ _)); exact BK124.out⟩, ⟨by (with_reducible repeat (first | refine blk_drewN ?_ _ | refine blk_drew ?_ | refine blk_alloc ?_ _)); exact BK134.out⟩, ⟨belowNow⟩⟩
        rw [if_pos c80] at H; have c80b0 : ((rd_T43 l0 x8_2).f0) = true := c80; clear c80
        (first | rw [c80b0] | (simp only [i64_w, i32_w]; rw [c80b0]) | (rw [c80b2]; try simp only [Bool.not_false, Bool.not_true]) | skip)
        replace H := Option.bind_eq_some_iff.mp H; obtain ⟨t148, A810, H⟩ := H
        replace H : (spec_Route7.j3 kj28 l0 a1 x7_2 x8_2 (-1) 1 (decide (t148 ≥ 0)) ((rd_T43 l0 x8_2).f0) ((rd_T43 l0 x8_2).f1) ((rd_T43 l0 x8_2).f2)) = some (r1, r2, r3) := H
        have A81 := Aside0.mk A810; clear A810
        have H' := Aside0.mk H
        clear H; have ⟨hnb82, hnc82⟩ := nn3_ NB134_124.out; have hcz83_0 := cz3_ BK134.out 0 rfl; have hcz83_1 := cz3_ BK134.out 1 rfl; have hcz83_2 := cz3_ BK134.out 2 rfl; have hfz83_0 := blk_frozen BK134.out 0; have hfz83_1 := blk_frozen BK134.out 1; have hfz83_2 := blk_frozen BK134.out 2
        go_wp2_with (first | (go_at_call 37; (with_reducible refine (spec_l7Has.calls kj28 true ((rd_T43 l0 x8_2).f1) _ _ ((rd_T43 l0 x8_2).f2) 6 t148 _ ?side1 ?side2 (by have h_ := A81.out; rw [c80b0] at h_; exact h_)).mono ?_); (case side1 => repeat (first | exact (Kd.C_below HR133_2.out HB.out) | (with_reducible refine Kd.C_alloc ?_ _) | (with_reducible refine Kd.C_drewN ?_ _) | (with_reducible refine Kd.C_drew ?_))); (case side2 => exact HC133_2.out); rintro e w84 ⟨rfl, hb⟩; replace HO_7 := Aside0.mk (Kd.R_below (pR_ HO_7.out) hb); replace BK124 := Aside0.mk (blkStep (g := gb124) hb); replace BK134 := Aside0.mk (blkStep (g := gb134) hb); replace HB := Aside0.mk (below_step belowNow hb); (try clear hb); (try clear hb2); (try clear hk); (try clear hi)))
        go_meet
        case rel => exact ⟨_, (decide (t148 ≥ 0)), (by first | rfl | (simp; done) | (simp [*]; done)), H', ⟨by have := HJ3.out; have := HK2.out; have := HJ28.out; first | omega | exact Nat.le_refl _⟩, ⟨by (with_reducible repeat (first | apply Kd.R_alloc | apply Kd.R_drewN | apply Kd.R_drew)); exact HO_7.out⟩, ⟨by (with_reducible repeat (first | refine blk_drewN ?_ _ | refine blk_drew ?_ | refine blk_alloc ?_ _)); exact BK124.out⟩, ⟨by (with_reducible repeat (first | refine blk_drewN ?_ _ | refine blk_drew ?_ | refine blk_alloc ?_ _)); exact BK134.out⟩, ⟨belowNow⟩⟩
       case rest =>
        clear HC75; (try clear c1); (try clear p1); (try clear q1); (try clear hx1); (try clear c2); (try clear p2); (try clear c3); (try clear c4); (try clear c5); (try clear c6); (try clear p6); (try clear c7); (try clear c8); (try clear c9); (try clear c10); (try clear c11); (try clear c12); (try clear p12); (try clear q12); (try clear hx12); (try clear c13); (try clear p13); (try clear q13); (try clear hx13); (try clear c16); (try clear c18); (try clear c18b0); (try clear c19); (try clear c19b0); (try clear c21); (try clear c21b0); (try clear c22); (try clear c27); (try clear c27b0); (try clear c28); (try clear c28b0); (try clear c31); (try clear c33); (try clear c33b0); (try clear c33b1); (try clear c35); (try clear c37); (try clear c38); (try clear c39); (try clear c39b0); (try clear c41); (try clear c43); (try clear c46); (try clear c47); (try clear c47b0); (try clear c50); (try clear c52); (try clear c56); (try clear c56b0); (try clear c58); (try clear c58b0); (try clear c60); (try clear p64); (try clear c67); (try clear c69); (try clear c77); (try clear c80); (try clear c80b0); (try clear c82); (try clear c85); (try clear hcz17_0 hcz17_1 hcz17_2); (try clear hcz23_0 hcz23_1 hcz23_2); (try clear hcz32_0 hcz32_1 hcz32_2); (try clear hcz42_0 hcz42_1 hcz42_2); (try clear hcz51_0 hcz51_1 hcz51_2); (try clear hcz61_0 hcz61_1 hcz61_2); (try clear hcz63_0 hcz63_1 hcz63_2); (try clear hcz66_0 hcz66_1 hcz66_2); (try clear hcz70_0 hcz70_1 hcz70_2); (try clear hcz72_0 hcz72_1 hcz72_2); (try clear hcz78_0 hcz78_1 hcz78_2); (try clear hcz83_0 hcz83_1 hcz83_2); (try clear hcz86_0 hcz86_1 hcz86_2); (try clear hfz17_0 hfz17_1 hfz17_2); (try clear hfz23_0 hfz23_1 hfz23_2); (try clear hfz32_0 hfz32_1 hfz32_2); (try clear hfz42_0 hfz42_1 hfz42_2); (try clear hfz51_0 hfz51_1 hfz51_2); (try clear hfz61_0 hfz61_1 hfz61_2); (try clear hfz63_0 hfz63_1 hfz63_2); (try clear hfz66_0 hfz66_1 hfz66_2); (try clear hfz70_0 hfz70_1 hfz70_2); (try clear hfz72_0 hfz72_1 hfz72_2); (try clear hfz78_0 hfz78_1 hfz78_2); (try clear hfz83_0 hfz83_1 hfz83_2); (try clear hfz86_0 hfz86_1 hfz86_2); (try clear hx128_0); (try clear hx128_1); (try clear hx128_2); (try clear hx133_0); (try clear hx133_1); (try clear hx133_2); (try clear p1); (try clear p12); (try clear p128); (try clear p13); (try clear p133); (try clear p2); (try clear p6); (try clear q1); (try clear q12); (try clear q128); (try clear q13); (try clear q133); obtain ⟨kq, x76_74, rfl, HA, HJ74, HO_7, BK124, BK134, HB⟩ := hcut
        cases kq with
        | zero => exact absurd HA.out (by simp [spec_Route7.j3])
        | succ kj74 =>
         have H := HA.out; clear HA; simp only [spec_Route7.j3] at H
         by_cases c87 : x76_74 = true
         case pos =>
          subst c87
          have H1 : (if (-1) < 0 then (some (2, x8_2, x7_2)) else (if x7_2.length < 17592186044416 then (spec_Route7.l0 kj74 l0 a1 (x7_2 ++ [x8_2]) (-1)) else (none))) = some (r1, r2, r3) := by rw [if_pos rfl] at H; exact H
          clear H; have H := H1; clear H1
          by_cases c88 : (-1) < 0
          case neg => exact absurd (by decide) c88
          rw [if_pos c88] at H; have c88b0 : decide ((-1) < 0) = true := decide_eq_true c88; clear c88; simp only [Option.some.injEq, Prod.mk.injEq] at H; obtain ⟨rfl, rfl, rfl⟩ := H; obtain ⟨Ao89, co89, eo89⟩ := Kd.R_slice HO_7.out; subst eo89; have ⟨hnb90, hnc90⟩ := nn3_ NB124_134.out; have hcz91_0 := cz3_ BK124.out 0 rfl; have hcz91_1 := cz3_ BK124.out 1 rfl; have hcz91_2 := cz3_ BK124.out 2 rfl; have hfz91_0 := blk_frozen BK124.out 0; have hfz91_1 := blk_frozen BK124.out 1; have hfz91_2 := blk_frozen BK124.out 2
          go_wp2
          refine bodyPost_ret (results_cell_row rfl _ _ gb124 26 #[.int .i64 2, .int .i64 x8_2, .slice Ao89 x7_2.length co89] (0, 0) _ rfl (by (with_reducible repeat (first | refine blk_drewN ?_ _ | refine blk_drew ?_ | refine blk_alloc ?_ _)); refine blk_put (cs := #[.int .i64 2, .int .i64 x8_2, .slice none 0 0]) ?_ 2 _ rfl; (with_reducible repeat (first | refine blk_drewN ?_ _ | refine blk_drew ?_ | refine blk_alloc ?_ _)); refine blk_put (cs := #[.int .i64 2, .int .i64 x125001_2, .slice none 0 0]) ?_ 1 _ rfl; (with_reducible repeat (first | refine blk_drewN ?_ _ | refine blk_drew ?_ | refine blk_alloc ?_ _)); refine blk_put (cs := #[.int .i64 x125000_2, .int .i64 x125001_2, .slice none 0 0]) ?_ 0 _ rfl; (with_reducible repeat (first | refine blk_drewN ?_ _ | refine blk_drew ?_ | refine blk_alloc ?_ _)); exact BK124.out) Try.underlying26 rfl (by kernel_rfl)) rfl ?_
          exact ⟨_, by first | rfl | (simp [errW_none, errW_some] <;> rfl) | (simp [*, errW_none, errW_some] <;> rfl), by (with_reducible repeat (first | apply Kd.R_alloc | apply Kd.R_drewN | apply Kd.R_drew)); exact Kd.R_mono (Kd.R_far (p := ⟨gb124, 2, none⟩) (Kd.R_far (p := ⟨gb124, 1, none⟩) (Kd.R_far (p := ⟨gb124, 0, none⟩) (Kd.R_types HO_7.out BK124.out (by decide)) (fun _ hk => hk.2) (.int .i64 2)) (fun _ hk => hk.2) (.int .i64 x8_2)) (fun _ hk => hk.2) (.slice Ao89 x7_2.length co89)) (fun _ hk => trivial), belowNow⟩
         replace c87 := Bool.eq_false_iff.mpr c87; subst c87
         have H1 : (if ((rd_T43 l0 x8_2).f0) = true then ((spec_l7Has.f kj74 ((rd_T43 l0 x8_2).f0) ((rd_T43 l0 x8_2).f1) ((rd_T43 l0 x8_2).f2) 2).bind fun t152 => (spec_Route7.j4 kj74 l0 a1 x7_2 x8_2 (-1) 1 (decide (t152 ≥ 0)) ((rd_T43 l0 x8_2).f0) ((rd_T43 l0 x8_2).f1) ((rd_T43 l0 x8_2).f2))) else (spec_Route7.j4 kj74 l0 a1 x7_2 x8_2 (-1) 1 false ((rd_T43 l0 x8_2).f0) ((rd_T43 l0 x8_2).f1) ((rd_T43 l0 x8_2).f2))) = some (r1, r2, r3) := by rw [if_neg (show ¬ (false = true) by decide)] at H; exact H
         clear H; have H := H1; clear H1; have HC94 := Aside0.mk H; clear H
         go_upto_region 17 with (fail)
         go_cut [84] (fun v84 wc => ∃ (kq : Nat) (x84_93 : Bool), v84 = .bool x84_93 ∧ Aside0 (spec_Route7.j4 kq l0 a1 x7_2 x8_2 (-1) 1 x84_93 ((rd_T43 l0 x8_2).f0) ((rd_T43 l0 x8_2).f1) ((rd_T43 l0 x8_2).f2) = some (r1, r2, r3)) ∧ Aside0 (kq ≤ kj74) ∧ Aside0 (Kd.R (Kd.int .i64) 3 wc w.heap.size (fun _ => True) u7 x7_2) ∧ Aside0 (wc.heap[gb124]? = some (.cells #[.int .i64 x125000_2, .int .i64 x125001_2, (.slice none 0 0)] 26 (0, 0))) ∧ Aside0 (wc.heap[gb134]? = some (.cells #[.bool ((rd_T43 l0 x8_2).f0), .bool ((rd_T43 l0 x8_2).f1), (.slice A133_2 ((rd_T43 l0 x8_2).f2).length c133_2)] 43 (0, 0))) ∧ Aside0 (Below w.heap.size w wc))
         case first =>
          have H := HC94.out; clear HC94
          by_cases c95 : ((rd_T43 l0 x8_2).f0) = true
          case neg =>
           rw [if_neg c95] at H
           have c95b0 : ((rd_T43 l0 x8_2).f0) = false := by simpa using c95
           clear c95
           (first | rw [c95b0] | (simp only [i64_w, i32_w]; rw [c95b0]) | (rw [c95b2]; try simp only [Bool.not_false, Bool.not_true]) | skip)
           have H' := Aside0.mk H
           clear H; have ⟨hnb100, hnc100⟩ := nn3_ NB134_124.out; have hcz101_0 := cz3_ BK134.out 0 rfl; have hcz101_1 := cz3_ BK134.out 1 rfl; have hcz101_2 := cz3_ BK134.out 2 rfl; have hfz101_0 := blk_frozen BK134.out 0; have hfz101_1 := blk_frozen BK134.out 1; have hfz101_2 := blk_frozen BK134.out 2
           go_wp2
           go_meet
           case rel => exact ⟨_, (false), (by first | rfl | (simp; done) | (simp [*]; done)), H', ⟨by have := HJ3.out; have := HK2.out; have := HJ28.out; have := HJ74.out; first | omega | exact Nat.le_refl _⟩, ⟨by (with_reducible repeat (first | apply Kd.R_alloc | apply Kd.R_drewN | apply Kd.R_drew)); exact HO_7.out⟩, ⟨by (with_reducible repeat (first | refine blk_drewN ?_ _ | refine blk_drew ?_ | refine blk_alloc ?_ _)); exact BK124.out⟩, ⟨by (with_reducible repeat (first | refine blk_drewN ?_ _ | refine blk_drew ?_ | refine blk_alloc ?_ _)); exact BK134.out⟩, ⟨belowNow⟩⟩
          rw [if_pos c95] at H; have c95b0 : ((rd_T43 l0 x8_2).f0) = true := c95; clear c95
          (first | rw [c95b0] | (simp only [i64_w, i32_w]; rw [c95b0]) | (rw [c95b2]; try simp only [Bool.not_false, Bool.not_true]) | skip)
          replace H := Option.bind_eq_some_iff.mp H; obtain ⟨t152, A960, H⟩ := H
          replace H : (spec_Route7.j4 kj74 l0 a1 x7_2 x8_2 (-1) 1 (decide (t152 ≥ 0)) ((rd_T43 l0 x8_2).f0) ((rd_T43 l0 x8_2).f1) ((rd_T43 l0 x8_2).f2)) = some (r1, r2, r3) := H
          have A96 := Aside0.mk A960; clear A960
          have H' := Aside0.mk H
          clear H; have ⟨hnb97, hnc97⟩ := nn3_ NB134_124.out; have hcz98_0 := cz3_ BK134.out 0 rfl; have hcz98_1 := cz3_ BK134.out 1 rfl; have hcz98_2 := cz3_ BK134.out 2 rfl; have hfz98_0 := blk_frozen BK134.out 0; have hfz98_1 := blk_frozen BK134.out 1; have hfz98_2 := blk_frozen BK134.out 2
          go_wp2_with (first | (go_at_call 37; (with_reducible refine (spec_l7Has.calls kj74 true ((rd_T43 l0 x8_2).f1) _ _ ((rd_T43 l0 x8_2).f2) 2 t152 _ ?side1 ?side2 (by have h_ := A96.out; rw [c95b0] at h_; exact h_)).mono ?_); (case side1 => repeat (first | exact (Kd.C_below HR133_2.out HB.out) | (with_reducible refine Kd.C_alloc ?_ _) | (with_reducible refine Kd.C_drewN ?_ _) | (with_reducible refine Kd.C_drew ?_))); (case side2 => exact HC133_2.out); rintro e w99 ⟨rfl, hb⟩; replace HO_7 := Aside0.mk (Kd.R_below (pR_ HO_7.out) hb); replace BK124 := Aside0.mk (blkStep (g := gb124) hb); replace BK134 := Aside0.mk (blkStep (g := gb134) hb); replace HB := Aside0.mk (below_step belowNow hb); (try clear hb); (try clear hb2); (try clear hk); (try clear hi)))
          go_meet
          case rel => exact ⟨_, (decide (t152 ≥ 0)), (by first | rfl | (simp; done) | (simp [*]; done)), H', ⟨by have := HJ3.out; have := HK2.out; have := HJ28.out; have := HJ74.out; first | omega | exact Nat.le_refl _⟩, ⟨by (with_reducible repeat (first | apply Kd.R_alloc | apply Kd.R_drewN | apply Kd.R_drew)); exact HO_7.out⟩, ⟨by (with_reducible repeat (first | refine blk_drewN ?_ _ | refine blk_drew ?_ | refine blk_alloc ?_ _)); exact BK124.out⟩, ⟨by (with_reducible repeat (first | refine blk_drewN ?_ _ | refine blk_drew ?_ | refine blk_alloc ?_ _)); exact BK134.out⟩, ⟨belowNow⟩⟩
         case rest =>
          clear HC94; (try clear c1); (try clear p1); (try clear q1); (try clear hx1); (try clear c2); (try clear p2); (try clear c3); (try clear c4); (try clear c5); (try clear c6); (try clear p6); (try clear c7); (try clear c8); (try clear c9); (try clear c10); (try clear c11); (try clear c12); (try clear p12); (try clear q12); (try clear hx12); (try clear c13); (try clear p13); (try clear q13); (try clear hx13); (try clear c16); (try clear c18); (try clear c18b0); (try clear c19); (try clear c19b0); (try clear c21); (try clear c21b0); (try clear c22); (try clear c27); (try clear c27b0); (try clear c28); (try clear c28b0); (try clear c31); (try clear c33); (try clear c33b0); (try clear c33b1); (try clear c35); (try clear c37); (try clear c38); (try clear c39); (try clear c39b0); (try clear c41); (try clear c43); (try clear c46); (try clear c47); (try clear c47b0); (try clear c50); (try clear c52); (try clear c56); (try clear c56b0); (try clear c58); (try clear c58b0); (try clear c60); (try clear p64); (try clear c67); (try clear c69); (try clear c77); (try clear c80); (try clear c80b0); (try clear c82); (try clear c85); (try clear c87); (try clear c88); (try clear c88b0); (try clear c90); (try clear c92); (try clear c95); (try clear c95b0); (try clear c97); (try clear c100); (try clear hcz101_0 hcz101_1 hcz101_2); (try clear hcz17_0 hcz17_1 hcz17_2); (try clear hcz23_0 hcz23_1 hcz23_2); (try clear hcz32_0 hcz32_1 hcz32_2); (try clear hcz42_0 hcz42_1 hcz42_2); (try clear hcz51_0 hcz51_1 hcz51_2); (try clear hcz61_0 hcz61_1 hcz61_2); (try clear hcz63_0 hcz63_1 hcz63_2); (try clear hcz66_0 hcz66_1 hcz66_2); (try clear hcz70_0 hcz70_1 hcz70_2); (try clear hcz72_0 hcz72_1 hcz72_2); (try clear hcz78_0 hcz78_1 hcz78_2); (try clear hcz83_0 hcz83_1 hcz83_2); (try clear hcz86_0 hcz86_1 hcz86_2); (try clear hcz91_0 hcz91_1 hcz91_2); (try clear hcz98_0 hcz98_1 hcz98_2); (try clear hfz101_0 hfz101_1 hfz101_2); (try clear hfz17_0 hfz17_1 hfz17_2); (try clear hfz23_0 hfz23_1 hfz23_2); (try clear hfz32_0 hfz32_1 hfz32_2); (try clear hfz42_0 hfz42_1 hfz42_2); (try clear hfz51_0 hfz51_1 hfz51_2); (try clear hfz61_0 hfz61_1 hfz61_2); (try clear hfz63_0 hfz63_1 hfz63_2); (try clear hfz66_0 hfz66_1 hfz66_2); (try clear hfz70_0 hfz70_1 hfz70_2); (try clear hfz72_0 hfz72_1 hfz72_2); (try clear hfz78_0 hfz78_1 hfz78_2); (try clear hfz83_0 hfz83_1 hfz83_2); (try clear hfz86_0 hfz86_1 hfz86_2); (try clear hfz91_0 hfz91_1 hfz91_2); (try clear hfz98_0 hfz98_1 hfz98_2); (try clear hx128_0); (try clear hx128_1); (try clear hx128_2); (try clear hx133_0); (try clear hx133_1); (try clear hx133_2); (try clear p1); (try clear p12); (try clear p128); (try clear p13); (try clear p133); (try clear p2); (try clear p6); (try clear p64); (try clear q1); (try clear q12); (try clear q128); (try clear q13); (try clear q133); obtain ⟨kq, x84_93, rfl, HA, HJ93, HO_7, BK124, BK134, HB⟩ := hcut
          cases kq with
          | zero => exact absurd HA.out (by simp [spec_Route7.j4])
          | succ kj93 =>
           have H := HA.out; clear HA; simp only [spec_Route7.j4] at H
           by_cases c102 : x84_93 = true
           case pos =>
            subst c102
            have H1 : ((spec_l7Has.f kj93 ((rd_T43 l0 x8_2).f0) ((rd_T43 l0 x8_2).f1) ((rd_T43 l0 x8_2).f2) 2).bind fun t153 => (if t153 < 0 then (some (1, x8_2, x7_2)) else (if x7_2.length < 17592186044416 then (spec_Route7.l0 kj93 l0 a1 (x7_2 ++ [x8_2]) t153) else (none)))) = some (r1, r2, r3) := by rw [if_pos rfl] at H; exact H
            clear H; have H := H1; clear H1; replace H := Option.bind_eq_some_iff.mp H; obtain ⟨t153, A1030, H⟩ := H
            replace H : (if t153 < 0 then (some (1, x8_2, x7_2)) else (if x7_2.length < 17592186044416 then (spec_Route7.l0 kj93 l0 a1 (x7_2 ++ [x8_2]) t153) else (none))) = some (r1, r2, r3) := H
            have A103 := Aside0.mk A1030; clear A1030
            by_cases c104 : t153 < 0
            case pos =>
             rw [if_pos c104] at H; have c104b0 : decide (t153 < 0) = true := decide_eq_true c104; clear c104; simp only [Option.some.injEq, Prod.mk.injEq] at H; obtain ⟨rfl, rfl, rfl⟩ := H; have ⟨hnb105, hnc105⟩ := nn3_ NB134_124.out; have hcz106_0 := cz3_ BK134.out 0 rfl; have hcz106_1 := cz3_ BK134.out 1 rfl; have hcz106_2 := cz3_ BK134.out 2 rfl; have hfz106_0 := blk_frozen BK134.out 0; have hfz106_1 := blk_frozen BK134.out 1; have hfz106_2 := blk_frozen BK134.out 2
             go_wp2_with (first | ((with_reducible refine gate_callee (f := 37) rfl ?_); refine goesL_ (some 93) rfl rfl Try.func37 (by kernel_rfl) rfl #[.agg #[.bool ((rd_T43 l0 x8_2).f0), .bool ((rd_T43 l0 x8_2).f1), .slice A133_2 ((rd_T43 l0 x8_2).f2).length c133_2], .int .i64 2] rfl (by (try simp only [List.map_toArray, List.map_cons, List.map_nil]); first | done | rfl | (simp only [List.length_drop, List.length_take]; rfl)) ?_; (with_reducible refine (spec_l7Has.calls kj93 ((rd_T43 l0 x8_2).f0) ((rd_T43 l0 x8_2).f1) _ _ ((rd_T43 l0 x8_2).f2) 2 t153 _ ?side1 ?side2 A103.out).mono ?_); (case side1 => repeat (first | exact (Kd.C_below HR133_2.out HB.out) | (with_reducible refine Kd.C_alloc ?_ _) | (with_reducible refine Kd.C_drewN ?_ _) | (with_reducible refine Kd.C_drew ?_))); (case side2 => exact HC133_2.out); rintro e w107 ⟨rfl, hb⟩; refine ⟨_, rfl, ?_⟩; replace HO_7 := Aside0.mk (Kd.R_below (pR_ HO_7.out) hb); replace BK124 := Aside0.mk (blkStep (g := gb124) hb); replace BK134 := Aside0.mk (blkStep (g := gb134) hb); replace HB := Aside0.mk (below_step belowNow hb); (try clear hb); (try clear hb2); (try clear hk); (try clear hi); obtain ⟨Ao108, co108, eo108⟩ := Kd.R_slice HO_7.out; subst eo108; have hcz109_0 := cz3_ BK124.out 0 rfl; have hcz109_1 := cz3_ BK124.out 1 rfl; have hcz109_2 := cz3_ BK124.out 2 rfl; have hfz109_0 := blk_frozen BK124.out 0; have hfz109_1 := blk_frozen BK124.out 1; have hfz109_2 := blk_frozen BK124.out 2))
             refine bodyPost_ret (results_cell_row rfl _ _ gb124 26 #[.int .i64 1, .int .i64 x8_2, .slice Ao108 x7_2.length co108] (0, 0) _ rfl (by (with_reducible repeat (first | refine blk_drewN ?_ _ | refine blk_drew ?_ | refine blk_alloc ?_ _)); refine blk_put (cs := #[.int .i64 1, .int .i64 x8_2, .slice none 0 0]) ?_ 2 _ rfl; (with_reducible repeat (first | refine blk_drewN ?_ _ | refine blk_drew ?_ | refine blk_alloc ?_ _)); refine blk_put (cs := #[.int .i64 1, .int .i64 x125001_2, .slice none 0 0]) ?_ 1 _ rfl; (with_reducible repeat (first | refine blk_drewN ?_ _ | refine blk_drew ?_ | refine blk_alloc ?_ _)); refine blk_put (cs := #[.int .i64 x125000_2, .int .i64 x125001_2, .slice none 0 0]) ?_ 0 _ rfl; (with_reducible repeat (first | refine blk_drewN ?_ _ | refine blk_drew ?_ | refine blk_alloc ?_ _)); exact BK124.out) Try.underlying26 rfl (by kernel_rfl)) rfl ?_
             exact ⟨_, by first | rfl | (simp [errW_none, errW_some] <;> rfl) | (simp [*, errW_none, errW_some] <;> rfl), by (with_reducible repeat (first | apply Kd.R_alloc | apply Kd.R_drewN | apply Kd.R_drew)); exact Kd.R_mono (Kd.R_far (p := ⟨gb124, 2, none⟩) (Kd.R_far (p := ⟨gb124, 1, none⟩) (Kd.R_far (p := ⟨gb124, 0, none⟩) (Kd.R_types HO_7.out BK124.out (by decide)) (fun _ hk => hk.2) (.int .i64 1)) (fun _ hk => hk.2) (.int .i64 x8_2)) (fun _ hk => hk.2) (.slice Ao108 x7_2.length co108)) (fun _ hk => trivial), belowNow⟩
            rw [if_neg c104] at H; have c104b0 : decide (t153 < 0) = false := decide_eq_false c104; clear c104
            by_cases c110 : x7_2.length < 17592186044416
            case neg =>
             rw [if_neg c110] at H
             exact absurd H (by simp)
            rw [if_pos c110] at H; have LMc110 := Aside0.mk c110; clear c110; obtain ⟨y154, hy154⟩ : ∃ y_ : List Int, y_ = (x7_2 ++ [x8_2]) := ⟨_, rfl⟩
            replace H : (spec_Route7.l0 kj93 l0 a1 y154 t153) = some (r1, r2, r3) := by first | (rw [hy154]; with_reducible exact H) | (have H2_ := (Option.bind_some _ _).symm.trans H; rw [hy154]; with_reducible exact H2_) | (have H2_ := (Option.bind_some _ _).symm.trans H; with_reducible exact H2_) | with_reducible exact H | (rw [hy154]; exact H) | exact H
            have Ny154 := Aside0.mk hy154; clear hy154
            have H' := Aside0.mk H
            clear H; have ⟨hnb111, hnc111⟩ := nn3_ NB134_124.out; have hcz112_0 := cz3_ BK134.out 0 rfl; have hcz112_1 := cz3_ BK134.out 1 rfl; have hcz112_2 := cz3_ BK134.out 2 rfl; have hfz112_0 := blk_frozen BK134.out 0; have hfz112_1 := blk_frozen BK134.out 1; have hfz112_2 := blk_frozen BK134.out 2
            go_wp2_with (first | ((with_reducible refine gate_callee (f := 37) rfl ?_); refine goesL_ (some 93) rfl rfl Try.func37 (by kernel_rfl) rfl #[.agg #[.bool ((rd_T43 l0 x8_2).f0), .bool ((rd_T43 l0 x8_2).f1), .slice A133_2 ((rd_T43 l0 x8_2).f2).length c133_2], .int .i64 2] rfl (by (try simp only [List.map_toArray, List.map_cons, List.map_nil]); first | done | rfl | (simp only [List.length_drop, List.length_take]; rfl)) ?_; (with_reducible refine (spec_l7Has.calls kj93 ((rd_T43 l0 x8_2).f0) ((rd_T43 l0 x8_2).f1) _ _ ((rd_T43 l0 x8_2).f2) 2 t153 _ ?side1 ?side2 A103.out).mono ?_); (case side1 => repeat (first | exact (Kd.C_below HR133_2.out HB.out) | (with_reducible refine Kd.C_alloc ?_ _) | (with_reducible refine Kd.C_drewN ?_ _) | (with_reducible refine Kd.C_drew ?_))); (case side2 => exact HC133_2.out); rintro e w113 ⟨rfl, hb⟩; refine ⟨_, rfl, ?_⟩; replace HO_7 := Aside0.mk (Kd.R_below (pR_ HO_7.out) hb); replace BK124 := Aside0.mk (blkStep (g := gb124) hb); replace BK134 := Aside0.mk (blkStep (g := gb134) hb); replace HB := Aside0.mk (below_step belowNow hb); (try clear hb); (try clear hb2); (try clear hk); (try clear hi)) | ((with_reducible refine gate_builtin (b := .append) (xs := #[.tmp 116, .tmp 118]) rfl ?_); (try (refine gate_guard (by rfl) ?_; dsimp only)); at_builtin; refine Kd.R_append (Kd.int .i64) (w0 := w) w.heap.size rfl (.tmp 116) (.tmp 118) 24 3 (.int .i64 0) 8 rfl Try.underlying24 info3 rfl (by decide) (by omega) u7 x7_2 x8_2 [.int .i64 x8_2] (fun _ => True) (fun _ => False) rfl rfl ?aP (fun _ hk => hk.elim) ?aF ?aO ?aB ?aS ?aL ?_; (case aP => exact rfl); (case aB => exact belowNow); (case aF => exact (fun _ _ => trivial)); (case aO => exact (pR_ HO_7.out)); (case aS => exact (below_size belowNow)); (case aL => have := LMc110.out; omega); intro v155 w114 ho hb hg hat; rw [← Ny154.out] at ho; have n0_ := Aside0.mk (blk_grown (g := gb124) (o := .cells #[.int .i64 x125000_2, .int .i64 x125001_2, .slice none 0 0] 26 (0, 0)) blkNow hg (Kd.R_ne HO_7.out BK124.out (by decide))); have n1_ := Aside0.mk (blk_grown (g := gb134) (o := .cells #[.bool ((rd_T43 l0 x8_2).f0), .bool ((rd_T43 l0 x8_2).f1), .slice A133_2 ((rd_T43 l0 x8_2).f2).length c133_2] 43 (0, 0)) blkNow hg (Kd.R_ne HO_7.out BK134.out (by decide))); have n2_ := Aside0.mk (hb); have n3_ := Aside0.mk (ho); clear BK124; clear BK134; clear HB; clear HO_7; have BK124 := n0_; have BK134 := n1_; have HB := n2_; have HO156 := n3_; clear n0_ n1_ n2_ n3_; clear ho hb hg hat))
            go_roundg kj93
            case measure => have := HJ3.out; have := HK2.out; have := HJ28.out; have := HJ74.out; have := HJ93.out; omega
            case rel => exact ⟨(y154), (t153), (x125000_2), (x125001_2), (by first | rfl | (simp; done) | (simp [*]; done)), H', ⟨by have := HJ3.out; have := HK2.out; have := HJ28.out; have := HJ74.out; have := HJ93.out; omega⟩, ⟨by (with_reducible repeat (first | apply Kd.R_alloc | apply Kd.R_drewN | apply Kd.R_drew)); exact HO156.out⟩, ⟨by (with_reducible repeat (first | refine blk_drewN ?_ _ | refine blk_drew ?_ | refine blk_alloc ?_ _)); exact BK124.out⟩, ⟨belowNow⟩⟩
           replace c102 := Bool.eq_false_iff.mpr c102; subst c102
           have H1 : (if ((rd_T43 l0 x8_2).f0) = true then (if (-1) < 0 then (some (3, x8_2, x7_2)) else (if x7_2.length < 17592186044416 then (spec_Route7.l0 kj93 l0 a1 (x7_2 ++ [x8_2]) (-1)) else (none))) else (if ((rd_T43 l0 x8_2).f1) = true then ((spec_l7Has.f kj93 ((rd_T43 l0 x8_2).f0) ((rd_T43 l0 x8_2).f1) ((rd_T43 l0 x8_2).f2) 3).bind fun t160 => (spec_Route7.j5 kj93 l0 a1 x7_2 x8_2 (-1) 1 (decide (t160 ≥ 0)) ((rd_T43 l0 x8_2).f0) ((rd_T43 l0 x8_2).f1) ((rd_T43 l0 x8_2).f2))) else (spec_Route7.j5 kj93 l0 a1 x7_2 x8_2 (-1) 1 false ((rd_T43 l0 x8_2).f0) ((rd_T43 l0 x8_2).f1) ((rd_T43 l0 x8_2).f2)))) = some (r1, r2, r3) := by rw [if_neg (show ¬ (false = true) by decide)] at H; exact H
           clear H; have H := H1; clear H1
           by_cases c115 : ((rd_T43 l0 x8_2).f0) = true
           case pos =>
            rw [if_pos c115] at H; have c115b0 : ((rd_T43 l0 x8_2).f0) = true := c115; clear c115
            by_cases c116 : (-1) < 0
            case neg => exact absurd (by decide) c116
            rw [if_pos c116] at H; have c116b0 : decide ((-1) < 0) = true := decide_eq_true c116; clear c116; simp only [Option.some.injEq, Prod.mk.injEq] at H; obtain ⟨rfl, rfl, rfl⟩ := H; have ⟨hnb117, hnc117⟩ := nn3_ NB134_124.out; have hcz118_0 := cz3_ BK134.out 0 rfl; have hcz118_1 := cz3_ BK134.out 1 rfl; have hcz118_2 := cz3_ BK134.out 2 rfl; have hfz118_0 := blk_frozen BK134.out 0; have hfz118_1 := blk_frozen BK134.out 1; have hfz118_2 := blk_frozen BK134.out 2; obtain ⟨Ao119, co119, eo119⟩ := Kd.R_slice HO_7.out; subst eo119; have hcz120_0 := cz3_ BK124.out 0 rfl; have hcz120_1 := cz3_ BK124.out 1 rfl; have hcz120_2 := cz3_ BK124.out 2 rfl; have hfz120_0 := blk_frozen BK124.out 0; have hfz120_1 := blk_frozen BK124.out 1; have hfz120_2 := blk_frozen BK124.out 2
            go_wp2
            refine bodyPost_ret (results_cell_row rfl _ _ gb124 26 #[.int .i64 3, .int .i64 x8_2, .slice Ao119 x7_2.length co119] (0, 0) _ rfl (by (with_reducible repeat (first | refine blk_drewN ?_ _ | refine blk_drew ?_ | refine blk_alloc ?_ _)); refine blk_put (cs := #[.int .i64 3, .int .i64 x8_2, .slice none 0 0]) ?_ 2 _ rfl; (with_reducible repeat (first | refine blk_drewN ?_ _ | refine blk_drew ?_ | refine blk_alloc ?_ _)); refine blk_put (cs := #[.int .i64 3, .int .i64 x125001_2, .slice none 0 0]) ?_ 1 _ rfl; (with_reducible repeat (first | refine blk_drewN ?_ _ | refine blk_drew ?_ | refine blk_alloc ?_ _)); refine blk_put (cs := #[.int .i64 x125000_2, .int .i64 x125001_2, .slice none 0 0]) ?_ 0 _ rfl; (with_reducible repeat (first | refine blk_drewN ?_ _ | refine blk_drew ?_ | refine blk_alloc ?_ _)); exact BK124.out) Try.underlying26 rfl (by kernel_rfl)) rfl ?_
            exact ⟨_, by first | rfl | (simp [errW_none, errW_some] <;> rfl) | (simp [*, errW_none, errW_some] <;> rfl), by (with_reducible repeat (first | apply Kd.R_alloc | apply Kd.R_drewN | apply Kd.R_drew)); exact Kd.R_mono (Kd.R_far (p := ⟨gb124, 2, none⟩) (Kd.R_far (p := ⟨gb124, 1, none⟩) (Kd.R_far (p := ⟨gb124, 0, none⟩) (Kd.R_types HO_7.out BK124.out (by decide)) (fun _ hk => hk.2) (.int .i64 3)) (fun _ hk => hk.2) (.int .i64 x8_2)) (fun _ hk => hk.2) (.slice Ao119 x7_2.length co119)) (fun _ hk => trivial), belowNow⟩
           rw [if_neg c115] at H
           have c115b0 : ((rd_T43 l0 x8_2).f0) = false := by simpa using c115
           clear c115; have HC125 := Aside0.mk H; clear H; have ⟨hnb126, hnc126⟩ := nn3_ NB134_124.out; have hcz127_0 := cz3_ BK134.out 0 rfl; have hcz127_1 := cz3_ BK134.out 1 rfl; have hcz127_2 := cz3_ BK134.out 2 rfl; have hfz127_0 := blk_frozen BK134.out 0; have hfz127_1 := blk_frozen BK134.out 1; have hfz127_2 := blk_frozen BK134.out 2
           go_upto_region 21 with (fail)
           go_cut [97] (fun v97 wc => ∃ (kq : Nat) (x97_124 : Bool), v97 = .bool x97_124 ∧ Aside0 (spec_Route7.j5 kq l0 a1 x7_2 x8_2 (-1) 1 x97_124 ((rd_T43 l0 x8_2).f0) ((rd_T43 l0 x8_2).f1) ((rd_T43 l0 x8_2).f2) = some (r1, r2, r3)) ∧ Aside0 (kq ≤ kj93) ∧ Aside0 (Kd.R (Kd.int .i64) 3 wc w.heap.size (fun _ => True) u7 x7_2) ∧ Aside0 (wc.heap[gb124]? = some (.cells #[.int .i64 x125000_2, .int .i64 x125001_2, (.slice none 0 0)] 26 (0, 0))) ∧ Aside0 (wc.heap[gb134]? = some (.cells #[.bool ((rd_T43 l0 x8_2).f0), .bool ((rd_T43 l0 x8_2).f1), (.slice A133_2 ((rd_T43 l0 x8_2).f2).length c133_2)] 43 (0, 0))) ∧ Aside0 (Below w.heap.size w wc))
           case first =>
            have H := HC125.out; clear HC125
            by_cases c128 : ((rd_T43 l0 x8_2).f1) = true
            case neg =>
             rw [if_neg c128] at H
             have c128b0 : ((rd_T43 l0 x8_2).f1) = false := by simpa using c128
             clear c128
             (first | rw [c128b0] | (simp only [i64_w, i32_w]; rw [c128b0]) | (rw [c128b2]; try simp only [Bool.not_false, Bool.not_true]) | skip)
             have H' := Aside0.mk H
             clear H; have ⟨hnb133, hnc133⟩ := nn3_ NB134_124.out; have hcz134_0 := cz3_ BK134.out 0 rfl; have hcz134_1 := cz3_ BK134.out 1 rfl; have hcz134_2 := cz3_ BK134.out 2 rfl; have hfz134_0 := blk_frozen BK134.out 0; have hfz134_1 := blk_frozen BK134.out 1; have hfz134_2 := blk_frozen BK134.out 2
             go_wp2
             go_meet
             case rel => exact ⟨_, (false), (by first | rfl | (simp; done) | (simp [*]; done)), H', ⟨by have := HJ3.out; have := HK2.out; have := HJ28.out; have := HJ74.out; have := HJ93.out; first | omega | exact Nat.le_refl _⟩, ⟨by (with_reducible repeat (first | apply Kd.R_alloc | apply Kd.R_drewN | apply Kd.R_drew)); exact HO_7.out⟩, ⟨by (with_reducible repeat (first | refine blk_drewN ?_ _ | refine blk_drew ?_ | refine blk_alloc ?_ _)); exact BK124.out⟩, ⟨by (with_reducible repeat (first | refine blk_drewN ?_ _ | refine blk_drew ?_ | refine blk_alloc ?_ _)); exact BK134.out⟩, ⟨belowNow⟩⟩
            rw [if_pos c128] at H; have c128b0 : ((rd_T43 l0 x8_2).f1) = true := c128; clear c128
            (first | rw [c128b0] | (simp only [i64_w, i32_w]; rw [c128b0]) | (rw [c128b2]; try simp only [Bool.not_false, Bool.not_true]) | skip)
            replace H := Option.bind_eq_some_iff.mp H; obtain ⟨t160, A1290, H⟩ := H
            replace H : (spec_Route7.j5 kj93 l0 a1 x7_2 x8_2 (-1) 1 (decide (t160 ≥ 0)) ((rd_T43 l0 x8_2).f0) ((rd_T43 l0 x8_2).f1) ((rd_T43 l0 x8_2).f2)) = some (r1, r2, r3) := H
            have A129 := Aside0.mk A1290; clear A1290
            have H' := Aside0.mk H
            clear H; have ⟨hnb130, hnc130⟩ := nn3_ NB134_124.out; have hcz131_0 := cz3_ BK134.out 0 rfl; have hcz131_1 := cz3_ BK134.out 1 rfl; have hcz131_2 := cz3_ BK134.out 2 rfl; have hfz131_0 := blk_frozen BK134.out 0; have hfz131_1 := blk_frozen BK134.out 1; have hfz131_2 := blk_frozen BK134.out 2
            go_wp2_with (first | (go_at_call 37; (with_reducible refine (spec_l7Has.calls kj93 false true _ _ ((rd_T43 l0 x8_2).f2) 3 t160 _ ?side1 ?side2 (by have h_ := A129.out; rw [c115b0, c128b0] at h_; exact h_)).mono ?_); (case side1 => repeat (first | exact (Kd.C_below HR133_2.out HB.out) | (with_reducible refine Kd.C_alloc ?_ _) | (with_reducible refine Kd.C_drewN ?_ _) | (with_reducible refine Kd.C_drew ?_))); (case side2 => exact HC133_2.out); rintro e w132 ⟨rfl, hb⟩; replace HO_7 := Aside0.mk (Kd.R_below (pR_ HO_7.out) hb); replace BK124 := Aside0.mk (blkStep (g := gb124) hb); replace BK134 := Aside0.mk (blkStep (g := gb134) hb); replace HB := Aside0.mk (below_step belowNow hb); (try clear hb); (try clear hb2); (try clear hk); (try clear hi)))
            go_meet
            case rel => exact ⟨_, (decide (t160 ≥ 0)), (by first | rfl | (simp; done) | (simp [*]; done)), H', ⟨by have := HJ3.out; have := HK2.out; have := HJ28.out; have := HJ74.out; have := HJ93.out; first | omega | exact Nat.le_refl _⟩, ⟨by (with_reducible repeat (first | apply Kd.R_alloc | apply Kd.R_drewN | apply Kd.R_drew)); exact HO_7.out⟩, ⟨by (with_reducible repeat (first | refine blk_drewN ?_ _ | refine blk_drew ?_ | refine blk_alloc ?_ _)); exact BK124.out⟩, ⟨by (with_reducible repeat (first | refine blk_drewN ?_ _ | refine blk_drew ?_ | refine blk_alloc ?_ _)); exact BK134.out⟩, ⟨belowNow⟩⟩
           case rest =>
            clear HC125; (try clear c1); (try clear p1); (try clear q1); (try clear hx1); (try clear c2); (try clear p2); (try clear c3); (try clear c4); (try clear c5); (try clear c6); (try clear p6); (try clear c7); (try clear c8); (try clear c9); (try clear c10); (try clear c11); (try clear c12); (try clear p12); (try clear q12); (try clear hx12); (try clear c13); (try clear p13); (try clear q13); (try clear hx13); (try clear c16); (try clear c18); (try clear c18b0); (try clear c19); (try clear c19b0); (try clear c21); (try clear c21b0); (try clear c22); (try clear c27); (try clear c27b0); (try clear c28); (try clear c28b0); (try clear c31); (try clear c33); (try clear c33b0); (try clear c33b1); (try clear c35); (try clear c37); (try clear c38); (try clear c39); (try clear c39b0); (try clear c41); (try clear c43); (try clear c46); (try clear c47); (try clear c47b0); (try clear c50); (try clear c52); (try clear c56); (try clear c56b0); (try clear c58); (try clear c58b0); (try clear c60); (try clear p64); (try clear c67); (try clear c69); (try clear c77); (try clear c80); (try clear c80b0); (try clear c82); (try clear c85); (try clear c87); (try clear c88); (try clear c88b0); (try clear c90); (try clear c92); (try clear c95); (try clear c95b0); (try clear c97); (try clear c100); (try clear c102); (try clear c104); (try clear c104b0); (try clear c105); (try clear c110); (try clear c111); (try clear c115); (try clear c115b0); (try clear c116); (try clear c116b0); (try clear c117); (try clear c121); (try clear c122); (try clear c126); (try clear c128); (try clear c128b0); (try clear p128); (try clear q128); (try clear hx128); (try clear c130); (try clear c133); (try clear p133); (try clear q133); (try clear hx133); (try clear hcz101_0 hcz101_1 hcz101_2); (try clear hcz106_0 hcz106_1 hcz106_2); (try clear hcz109_0 hcz109_1 hcz109_2); (try clear hcz112_0 hcz112_1 hcz112_2); (try clear hcz118_0 hcz118_1 hcz118_2); (try clear hcz120_0 hcz120_1 hcz120_2); (try clear hcz123_0 hcz123_1 hcz123_2); (try clear hcz127_0 hcz127_1 hcz127_2); (try clear hcz131_0 hcz131_1 hcz131_2); (try clear hcz134_0 hcz134_1 hcz134_2); (try clear hcz17_0 hcz17_1 hcz17_2); (try clear hcz23_0 hcz23_1 hcz23_2); (try clear hcz32_0 hcz32_1 hcz32_2); (try clear hcz42_0 hcz42_1 hcz42_2); (try clear hcz51_0 hcz51_1 hcz51_2); (try clear hcz61_0 hcz61_1 hcz61_2); (try clear hcz63_0 hcz63_1 hcz63_2); (try clear hcz66_0 hcz66_1 hcz66_2); (try clear hcz70_0 hcz70_1 hcz70_2); (try clear hcz72_0 hcz72_1 hcz72_2); (try clear hcz78_0 hcz78_1 hcz78_2); (try clear hcz83_0 hcz83_1 hcz83_2); (try clear hcz86_0 hcz86_1 hcz86_2); (try clear hcz91_0 hcz91_1 hcz91_2); (try clear hcz98_0 hcz98_1 hcz98_2); (try clear hfz101_0 hfz101_1 hfz101_2); (try clear hfz106_0 hfz106_1 hfz106_2); (try clear hfz109_0 hfz109_1 hfz109_2); (try clear hfz112_0 hfz112_1 hfz112_2); (try clear hfz118_0 hfz118_1 hfz118_2); (try clear hfz120_0 hfz120_1 hfz120_2); (try clear hfz123_0 hfz123_1 hfz123_2); (try clear hfz127_0 hfz127_1 hfz127_2); (try clear hfz131_0 hfz131_1 hfz131_2); (try clear hfz134_0 hfz134_1 hfz134_2); (try clear hfz17_0 hfz17_1 hfz17_2); (try clear hfz23_0 hfz23_1 hfz23_2); (try clear hfz32_0 hfz32_1 hfz32_2); (try clear hfz42_0 hfz42_1 hfz42_2); (try clear hfz51_0 hfz51_1 hfz51_2); (try clear hfz61_0 hfz61_1 hfz61_2); (try clear hfz63_0 hfz63_1 hfz63_2); (try clear hfz66_0 hfz66_1 hfz66_2); (try clear hfz70_0 hfz70_1 hfz70_2); (try clear hfz72_0 hfz72_1 hfz72_2); (try clear hfz78_0 hfz78_1 hfz78_2); (try clear hfz83_0 hfz83_1 hfz83_2); (try clear hfz86_0 hfz86_1 hfz86_2); (try clear hfz91_0 hfz91_1 hfz91_2); (try clear hfz98_0 hfz98_1 hfz98_2); (try clear hx128_0); (try clear hx128_1); (try clear hx128_2); (try clear hx133_0); (try clear hx133_1); (try clear hx133_2); (try clear p1); (try clear p12); (try clear p128); (try clear p13); (try clear p133); (try clear p2); (try clear p6); (try clear p64); (try clear q1); (try clear q12); (try clear q128); (try clear q13); (try clear q133); obtain ⟨kq, x97_124, rfl, HA, HJ124, HO_7, BK124, BK134, HB⟩ := hcut
            cases kq with
            | zero => exact absurd HA.out (by simp [spec_Route7.j5])
            | succ kj124 =>
             have H := HA.out; clear HA; simp only [spec_Route7.j5] at H
             by_cases c135 : x97_124 = true
             case neg =>
              replace c135 := Bool.eq_false_iff.mpr c135; subst c135
              have H1 : (if ((rd_T43 l0 x8_2).f1) = true then (if (-1) < 0 then (some (4, x8_2, x7_2)) else (if x7_2.length < 17592186044416 then (spec_Route7.l0 kj124 l0 a1 (x7_2 ++ [x8_2]) (-1)) else (none))) else (if (-1) < 0 then (some (1, x8_2, x7_2)) else (if x7_2.length < 17592186044416 then (spec_Route7.l0 kj124 l0 a1 (x7_2 ++ [x8_2]) (-1)) else (none)))) = some (r1, r2, r3) := by rw [if_neg (show ¬ (false = true) by decide)] at H; exact H
              clear H; have H := H1; clear H1
              by_cases c148 : ((rd_T43 l0 x8_2).f1) = true
              case pos =>
               rw [if_pos c148] at H; have c148b0 : ((rd_T43 l0 x8_2).f1) = true := c148; clear c148
               by_cases c149 : (-1) < 0
               case neg => exact absurd (by decide) c149
               rw [if_pos c149] at H; have c149b0 : decide ((-1) < 0) = true := decide_eq_true c149; clear c149; simp only [Option.some.injEq, Prod.mk.injEq] at H; obtain ⟨rfl, rfl, rfl⟩ := H; have ⟨hnb150, hnc150⟩ := nn3_ NB134_124.out; have hcz151_0 := cz3_ BK134.out 0 rfl; have hcz151_1 := cz3_ BK134.out 1 rfl; have hcz151_2 := cz3_ BK134.out 2 rfl; have hfz151_0 := blk_frozen BK134.out 0; have hfz151_1 := blk_frozen BK134.out 1; have hfz151_2 := blk_frozen BK134.out 2; obtain ⟨Ao152, co152, eo152⟩ := Kd.R_slice HO_7.out; subst eo152; have hcz153_0 := cz3_ BK124.out 0 rfl; have hcz153_1 := cz3_ BK124.out 1 rfl; have hcz153_2 := cz3_ BK124.out 2 rfl; have hfz153_0 := blk_frozen BK124.out 0; have hfz153_1 := blk_frozen BK124.out 1; have hfz153_2 := blk_frozen BK124.out 2
               go_wp2
               refine bodyPost_ret (results_cell_row rfl _ _ gb124 26 #[.int .i64 4, .int .i64 x8_2, .slice Ao152 x7_2.length co152] (0, 0) _ rfl (by (with_reducible repeat (first | refine blk_drewN ?_ _ | refine blk_drew ?_ | refine blk_alloc ?_ _)); refine blk_put (cs := #[.int .i64 4, .int .i64 x8_2, .slice none 0 0]) ?_ 2 _ rfl; (with_reducible repeat (first | refine blk_drewN ?_ _ | refine blk_drew ?_ | refine blk_alloc ?_ _)); refine blk_put (cs := #[.int .i64 4, .int .i64 x125001_2, .slice none 0 0]) ?_ 1 _ rfl; (with_reducible repeat (first | refine blk_drewN ?_ _ | refine blk_drew ?_ | refine blk_alloc ?_ _)); refine blk_put (cs := #[.int .i64 x125000_2, .int .i64 x125001_2, .slice none 0 0]) ?_ 0 _ rfl; (with_reducible repeat (first | refine blk_drewN ?_ _ | refine blk_drew ?_ | refine blk_alloc ?_ _)); exact BK124.out) Try.underlying26 rfl (by kernel_rfl)) rfl ?_
               exact ⟨_, by first | rfl | (simp [errW_none, errW_some] <;> rfl) | (simp [*, errW_none, errW_some] <;> rfl), by (with_reducible repeat (first | apply Kd.R_alloc | apply Kd.R_drewN | apply Kd.R_drew)); exact Kd.R_mono (Kd.R_far (p := ⟨gb124, 2, none⟩) (Kd.R_far (p := ⟨gb124, 1, none⟩) (Kd.R_far (p := ⟨gb124, 0, none⟩) (Kd.R_types HO_7.out BK124.out (by decide)) (fun _ hk => hk.2) (.int .i64 4)) (fun _ hk => hk.2) (.int .i64 x8_2)) (fun _ hk => hk.2) (.slice Ao152 x7_2.length co152)) (fun _ hk => trivial), belowNow⟩
              rw [if_neg c148] at H
              have c148b0 : ((rd_T43 l0 x8_2).f1) = false := by simpa using c148
              clear c148
              by_cases c158 : (-1) < 0
              case neg => exact absurd (by decide) c158
              rw [if_pos c158] at H; have c158b0 : decide ((-1) < 0) = true := decide_eq_true c158; clear c158; simp only [Option.some.injEq, Prod.mk.injEq] at H; obtain ⟨rfl, rfl, rfl⟩ := H; have ⟨hnb159, hnc159⟩ := nn3_ NB134_124.out; have hcz160_0 := cz3_ BK134.out 0 rfl; have hcz160_1 := cz3_ BK134.out 1 rfl; have hcz160_2 := cz3_ BK134.out 2 rfl; have hfz160_0 := blk_frozen BK134.out 0; have hfz160_1 := blk_frozen BK134.out 1; have hfz160_2 := blk_frozen BK134.out 2; obtain ⟨Ao161, co161, eo161⟩ := Kd.R_slice HO_7.out; subst eo161; have hcz162_0 := cz3_ BK124.out 0 rfl; have hcz162_1 := cz3_ BK124.out 1 rfl; have hcz162_2 := cz3_ BK124.out 2 rfl; have hfz162_0 := blk_frozen BK124.out 0; have hfz162_1 := blk_frozen BK124.out 1; have hfz162_2 := blk_frozen BK124.out 2
              go_wp2
              refine bodyPost_ret (results_cell_row rfl _ _ gb124 26 #[.int .i64 1, .int .i64 x8_2, .slice Ao161 x7_2.length co161] (0, 0) _ rfl (by (with_reducible repeat (first | refine blk_drewN ?_ _ | refine blk_drew ?_ | refine blk_alloc ?_ _)); refine blk_put (cs := #[.int .i64 1, .int .i64 x8_2, .slice none 0 0]) ?_ 2 _ rfl; (with_reducible repeat (first | refine blk_drewN ?_ _ | refine blk_drew ?_ | refine blk_alloc ?_ _)); refine blk_put (cs := #[.int .i64 1, .int .i64 x125001_2, .slice none 0 0]) ?_ 1 _ rfl; (with_reducible repeat (first | refine blk_drewN ?_ _ | refine blk_drew ?_ | refine blk_alloc ?_ _)); refine blk_put (cs := #[.int .i64 x125000_2, .int .i64 x125001_2, .slice none 0 0]) ?_ 0 _ rfl; (with_reducible repeat (first | refine blk_drewN ?_ _ | refine blk_drew ?_ | refine blk_alloc ?_ _)); exact BK124.out) Try.underlying26 rfl (by kernel_rfl)) rfl ?_
              exact ⟨_, by first | rfl | (simp [errW_none, errW_some] <;> rfl) | (simp [*, errW_none, errW_some] <;> rfl), by (with_reducible repeat (first | apply Kd.R_alloc | apply Kd.R_drewN | apply Kd.R_drew)); exact Kd.R_mono (Kd.R_far (p := ⟨gb124, 2, none⟩) (Kd.R_far (p := ⟨gb124, 1, none⟩) (Kd.R_far (p := ⟨gb124, 0, none⟩) (Kd.R_types HO_7.out BK124.out (by decide)) (fun _ hk => hk.2) (.int .i64 1)) (fun _ hk => hk.2) (.int .i64 x8_2)) (fun _ hk => hk.2) (.slice Ao161 x7_2.length co161)) (fun _ hk => trivial), belowNow⟩
             subst c135
             have H1 : ((spec_l7Has.f kj124 ((rd_T43 l0 x8_2).f0) ((rd_T43 l0 x8_2).f1) ((rd_T43 l0 x8_2).f2) 3).bind fun t161 => (if t161 < 0 then (some (1, x8_2, x7_2)) else (if x7_2.length < 17592186044416 then (spec_Route7.l0 kj124 l0 a1 (x7_2 ++ [x8_2]) t161) else (none)))) = some (r1, r2, r3) := by rw [if_pos rfl] at H; exact H
             clear H; have H := H1; clear H1; replace H := Option.bind_eq_some_iff.mp H; obtain ⟨t161, A1360, H⟩ := H
             replace H : (if t161 < 0 then (some (1, x8_2, x7_2)) else (if x7_2.length < 17592186044416 then (spec_Route7.l0 kj124 l0 a1 (x7_2 ++ [x8_2]) t161) else (none))) = some (r1, r2, r3) := H
             have A136 := Aside0.mk A1360; clear A1360
             by_cases c137 : t161 < 0
             case pos =>
              rw [if_pos c137] at H; have c137b0 : decide (t161 < 0) = true := decide_eq_true c137; clear c137; simp only [Option.some.injEq, Prod.mk.injEq] at H; obtain ⟨rfl, rfl, rfl⟩ := H; have ⟨hnb138, hnc138⟩ := nn3_ NB134_124.out; have hcz139_0 := cz3_ BK134.out 0 rfl; have hcz139_1 := cz3_ BK134.out 1 rfl; have hcz139_2 := cz3_ BK134.out 2 rfl; have hfz139_0 := blk_frozen BK134.out 0; have hfz139_1 := blk_frozen BK134.out 1; have hfz139_2 := blk_frozen BK134.out 2
              go_wp2_with (first | ((with_reducible refine gate_callee (f := 37) rfl ?_); refine goesL_ (some 106) rfl rfl Try.func37 (by kernel_rfl) rfl #[.agg #[.bool ((rd_T43 l0 x8_2).f0), .bool ((rd_T43 l0 x8_2).f1), .slice A133_2 ((rd_T43 l0 x8_2).f2).length c133_2], .int .i64 3] rfl (by (try simp only [List.map_toArray, List.map_cons, List.map_nil]); first | done | rfl | (simp only [List.length_drop, List.length_take]; rfl)) ?_; (with_reducible refine (spec_l7Has.calls kj124 ((rd_T43 l0 x8_2).f0) ((rd_T43 l0 x8_2).f1) _ _ ((rd_T43 l0 x8_2).f2) 3 t161 _ ?side1 ?side2 A136.out).mono ?_); (case side1 => repeat (first | exact (Kd.C_below HR133_2.out HB.out) | (with_reducible refine Kd.C_alloc ?_ _) | (with_reducible refine Kd.C_drewN ?_ _) | (with_reducible refine Kd.C_drew ?_))); (case side2 => exact HC133_2.out); rintro e w140 ⟨rfl, hb⟩; refine ⟨_, rfl, ?_⟩; replace HO_7 := Aside0.mk (Kd.R_below (pR_ HO_7.out) hb); replace BK124 := Aside0.mk (blkStep (g := gb124) hb); replace BK134 := Aside0.mk (blkStep (g := gb134) hb); replace HB := Aside0.mk (below_step belowNow hb); (try clear hb); (try clear hb2); (try clear hk); (try clear hi); obtain ⟨Ao141, co141, eo141⟩ := Kd.R_slice HO_7.out; subst eo141; have hcz142_0 := cz3_ BK124.out 0 rfl; have hcz142_1 := cz3_ BK124.out 1 rfl; have hcz142_2 := cz3_ BK124.out 2 rfl; have hfz142_0 := blk_frozen BK124.out 0; have hfz142_1 := blk_frozen BK124.out 1; have hfz142_2 := blk_frozen BK124.out 2))
              refine bodyPost_ret (results_cell_row rfl _ _ gb124 26 #[.int .i64 1, .int .i64 x8_2, .slice Ao141 x7_2.length co141] (0, 0) _ rfl (by (with_reducible repeat (first | refine blk_drewN ?_ _ | refine blk_drew ?_ | refine blk_alloc ?_ _)); refine blk_put (cs := #[.int .i64 1, .int .i64 x8_2, .slice none 0 0]) ?_ 2 _ rfl; (with_reducible repeat (first | refine blk_drewN ?_ _ | refine blk_drew ?_ | refine blk_alloc ?_ _)); refine blk_put (cs := #[.int .i64 1, .int .i64 x125001_2, .slice none 0 0]) ?_ 1 _ rfl; (with_reducible repeat (first | refine blk_drewN ?_ _ | refine blk_drew ?_ | refine blk_alloc ?_ _)); refine blk_put (cs := #[.int .i64 x125000_2, .int .i64 x125001_2, .slice none 0 0]) ?_ 0 _ rfl; (with_reducible repeat (first | refine blk_drewN ?_ _ | refine blk_drew ?_ | refine blk_alloc ?_ _)); exact BK124.out) Try.underlying26 rfl (by kernel_rfl)) rfl ?_
              exact ⟨_, by first | rfl | (simp [errW_none, errW_some] <;> rfl) | (simp [*, errW_none, errW_some] <;> rfl), by (with_reducible repeat (first | apply Kd.R_alloc | apply Kd.R_drewN | apply Kd.R_drew)); exact Kd.R_mono (Kd.R_far (p := ⟨gb124, 2, none⟩) (Kd.R_far (p := ⟨gb124, 1, none⟩) (Kd.R_far (p := ⟨gb124, 0, none⟩) (Kd.R_types HO_7.out BK124.out (by decide)) (fun _ hk => hk.2) (.int .i64 1)) (fun _ hk => hk.2) (.int .i64 x8_2)) (fun _ hk => hk.2) (.slice Ao141 x7_2.length co141)) (fun _ hk => trivial), belowNow⟩
             rw [if_neg c137] at H; have c137b0 : decide (t161 < 0) = false := decide_eq_false c137; clear c137
             by_cases c143 : x7_2.length < 17592186044416
             case neg =>
              rw [if_neg c143] at H
              exact absurd H (by simp)
             rw [if_pos c143] at H; have LMc143 := Aside0.mk c143; clear c143; obtain ⟨y162, hy162⟩ : ∃ y_ : List Int, y_ = (x7_2 ++ [x8_2]) := ⟨_, rfl⟩
             replace H : (spec_Route7.l0 kj124 l0 a1 y162 t161) = some (r1, r2, r3) := by first | (rw [hy162]; with_reducible exact H) | (have H2_ := (Option.bind_some _ _).symm.trans H; rw [hy162]; with_reducible exact H2_) | (have H2_ := (Option.bind_some _ _).symm.trans H; with_reducible exact H2_) | with_reducible exact H | (rw [hy162]; exact H) | exact H
             have Ny162 := Aside0.mk hy162; clear hy162
             have H' := Aside0.mk H
             clear H; have ⟨hnb144, hnc144⟩ := nn3_ NB134_124.out; have hcz145_0 := cz3_ BK134.out 0 rfl; have hcz145_1 := cz3_ BK134.out 1 rfl; have hcz145_2 := cz3_ BK134.out 2 rfl; have hfz145_0 := blk_frozen BK134.out 0; have hfz145_1 := blk_frozen BK134.out 1; have hfz145_2 := blk_frozen BK134.out 2
             go_wp2_with (first | ((with_reducible refine gate_callee (f := 37) rfl ?_); refine goesL_ (some 106) rfl rfl Try.func37 (by kernel_rfl) rfl #[.agg #[.bool ((rd_T43 l0 x8_2).f0), .bool ((rd_T43 l0 x8_2).f1), .slice A133_2 ((rd_T43 l0 x8_2).f2).length c133_2], .int .i64 3] rfl (by (try simp only [List.map_toArray, List.map_cons, List.map_nil]); first | done | rfl | (simp only [List.length_drop, List.length_take]; rfl)) ?_; (with_reducible refine (spec_l7Has.calls kj124 ((rd_T43 l0 x8_2).f0) ((rd_T43 l0 x8_2).f1) _ _ ((rd_T43 l0 x8_2).f2) 3 t161 _ ?side1 ?side2 A136.out).mono ?_); (case side1 => repeat (first | exact (Kd.C_below HR133_2.out HB.out) | (with_reducible refine Kd.C_alloc ?_ _) | (with_reducible refine Kd.C_drewN ?_ _) | (with_reducible refine Kd.C_drew ?_))); (case side2 => exact HC133_2.out); rintro e w146 ⟨rfl, hb⟩; refine ⟨_, rfl, ?_⟩; replace HO_7 := Aside0.mk (Kd.R_below (pR_ HO_7.out) hb); replace BK124 := Aside0.mk (blkStep (g := gb124) hb); replace BK134 := Aside0.mk (blkStep (g := gb134) hb); replace HB := Aside0.mk (below_step belowNow hb); (try clear hb); (try clear hb2); (try clear hk); (try clear hi)) | ((with_reducible refine gate_builtin (b := .append) (xs := #[.tmp 116, .tmp 118]) rfl ?_); (try (refine gate_guard (by rfl) ?_; dsimp only)); at_builtin; refine Kd.R_append (Kd.int .i64) (w0 := w) w.heap.size rfl (.tmp 116) (.tmp 118) 24 3 (.int .i64 0) 8 rfl Try.underlying24 info3 rfl (by decide) (by omega) u7 x7_2 x8_2 [.int .i64 x8_2] (fun _ => True) (fun _ => False) rfl rfl ?aP (fun _ hk => hk.elim) ?aF ?aO ?aB ?aS ?aL ?_; (case aP => exact rfl); (case aB => exact belowNow); (case aF => exact (fun _ _ => trivial)); (case aO => exact (pR_ HO_7.out)); (case aS => exact (below_size belowNow)); (case aL => have := LMc143.out; omega); intro v163 w147 ho hb hg hat; rw [← Ny162.out] at ho; have n0_ := Aside0.mk (blk_grown (g := gb124) (o := .cells #[.int .i64 x125000_2, .int .i64 x125001_2, .slice none 0 0] 26 (0, 0)) blkNow hg (Kd.R_ne HO_7.out BK124.out (by decide))); have n1_ := Aside0.mk (blk_grown (g := gb134) (o := .cells #[.bool ((rd_T43 l0 x8_2).f0), .bool ((rd_T43 l0 x8_2).f1), .slice A133_2 ((rd_T43 l0 x8_2).f2).length c133_2] 43 (0, 0)) blkNow hg (Kd.R_ne HO_7.out BK134.out (by decide))); have n2_ := Aside0.mk (hb); have n3_ := Aside0.mk (ho); clear BK124; clear BK134; clear HB; clear HO_7; have BK124 := n0_; have BK134 := n1_; have HB := n2_; have HO164 := n3_; clear n0_ n1_ n2_ n3_; clear ho hb hg hat))
             go_roundg kj124
             case measure => have := HJ3.out; have := HK2.out; have := HJ28.out; have := HJ74.out; have := HJ93.out; have := HJ124.out; omega
             case rel => exact ⟨(y162), (t161), (x125000_2), (x125001_2), (by first | rfl | (simp; done) | (simp [*]; done)), H', ⟨by have := HJ3.out; have := HK2.out; have := HJ28.out; have := HJ74.out; have := HJ93.out; have := HJ124.out; omega⟩, ⟨by (with_reducible repeat (first | apply Kd.R_alloc | apply Kd.R_drewN | apply Kd.R_drew)); exact HO164.out⟩, ⟨by (with_reducible repeat (first | refine blk_drewN ?_ _ | refine blk_drew ?_ | refine blk_alloc ?_ _)); exact BK124.out⟩, ⟨belowNow⟩⟩
end Go.Proofs.Ytkcmdfeiaafdjaa.PFnHops
