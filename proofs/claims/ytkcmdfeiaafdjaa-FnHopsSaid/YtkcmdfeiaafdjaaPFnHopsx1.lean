-- laid by a program of this session (wip/lay/lay.py); Lean checks it
import Derived.Test.YtkcmdfeiaafdjaaVFnHopsShort
import Derived.Test.YtkcmdfeiaafdjaaPFnHopsx0
namespace Go.Proofs.Ytkcmdfeiaafdjaa.PFnHops
-- squashed
open Go.RowKit Go.Proofs.YtkcmdfeiaafdjaaW.PrintWords Go.Proofs.YtkcmdfeiaafdjaaW.PrintLast Go.Proofs.YtkcmdfeiaafdjaaW.PrintMore Go.Proofs.Ytkcmdfeiaafdjaa.Short
attribute [local go_sem] max2_int min2_int max_two min_two max_three min_three max_four min_four   -- for this text's walks alone
set_option linter.unusedVariables false
set_option linter.unusedSimpArgs false

theorem cz1_ {w : World} {g : Nat} {t : TypeId} {cs : Array Value} {v : Value} (h : w.heap[g]? = some (.cells cs t (0, 0))) (i : Nat) (e : cs[i]? = some v) : w.cell? ⟨g, i, none⟩ = some v := (blk_cell h i).trans e
theorem nn1_ {a b : Nat} (h : a ≠ b) : a ≠ b ∧ b ≠ a := ⟨h, h.symm⟩
/-! ### spec_l1In: function 36 -/
def spec_l1In.f (a0 : Int) (a1 : Int) (a2 : Int) : Option (Bool) := if a0 ≥ a1 then (some (decide (a0 ≤ a2))) else (some false)
set_option maxHeartbeats 8000000 in
set_option maxRecDepth 100000 in
theorem spec_l1In.calls (a0 : Int) (a1 : Int) (a2 : Int) (r : Bool) (w : World) (h : spec_l1In.f a0 a1 a2 = some r) :
  Calls Try.prog 36 #[.int .i64 a0, .int .i64 a1, .int .i64 a2] w fun e w' => e = .returned (.bool r) ∧ Drawn0 w w' := by
 have H : (if a0 ≥ a1 then (some (decide (a0 ≤ a2))) else (some false)) = some r := h; clear h
 by_cases c4 : a0 ≥ a1
 case pos =>
  rw [if_pos c4] at H; have c4b0 : decide (a1 ≤ a0) = true := decide_eq_true c4; clear c4; obtain rfl := Option.some.inj H
  go_enter Try.func36, Try.ntmps36
  go_wp2
  go_ret
  exact ⟨by first | rfl | (simp; done) | (simp [*]; done), by repeat (first | exact Drawn0.refl _ | apply Drawn0.step)⟩
 rw [if_neg c4] at H; have c4b0 : decide (a1 ≤ a0) = false := decide_eq_false c4; clear c4; obtain rfl := Option.some.inj H
 go_enter Try.func36, Try.ntmps36
 go_wp2
 go_ret
 exact ⟨by first | rfl | (simp; done) | (simp [*]; done), by repeat (first | exact Drawn0.refl _ | apply Drawn0.step)⟩

/-! ### spec_l7Points: function 72 -/
def spec_l7Points.f (a0 : Int) : Option (Bool) := if a0 = 1 then (some true) else (if a0 = 2 then (some true) else (if a0 = 3 then (some true) else (some (a0 == 5))))
set_option maxHeartbeats 8000000 in
set_option maxRecDepth 100000 in
theorem spec_l7Points.calls (a0 : Int) (r : Bool) (w : World) (h : spec_l7Points.f a0 = some r) :
  Calls Try.prog 72 #[.int .i64 a0] w fun e w' => e = .returned (.bool r) ∧ Drawn0 w w' := by
 have H : (if a0 = 1 then (some true) else (if a0 = 2 then (some true) else (if a0 = 3 then (some true) else (some (a0 == 5))))) = some r := h; clear h
 by_cases c2 : a0 = 1
 case pos =>
  rw [if_pos c2] at H; have c2b0 : (a0 == 1) = true := beq_iff_eq.mpr c2; have c2b1 : (a0 != 1) = false := bne_eq_false_iff_eq.mpr c2; clear c2; obtain rfl := Option.some.inj H
  go_enter Try.func72, Try.ntmps72
  go_wp2
  go_ret
  exact ⟨by first | rfl | (simp; done) | (simp [*]; done), by repeat (first | exact Drawn0.refl _ | apply Drawn0.step)⟩
 rw [if_neg c2] at H; have c2b0 : (a0 == 1) = false := beq_eq_false_iff_ne.mpr c2; have c2b1 : (a0 != 1) = true := bne_iff_ne.mpr c2
 by_cases c3 : a0 = 2
 case pos =>
  rw [if_pos c3] at H; have c3b0 : (a0 == 2) = true := beq_iff_eq.mpr c3; have c3b1 : (a0 != 2) = false := bne_eq_false_iff_eq.mpr c3; clear c3; obtain rfl := Option.some.inj H
  go_enter Try.func72, Try.ntmps72
  go_wp2
  go_ret
  exact ⟨by first | rfl | (simp; done) | (simp [*]; done), by repeat (first | exact Drawn0.refl _ | apply Drawn0.step)⟩
 rw [if_neg c3] at H; have c3b0 : (a0 == 2) = false := beq_eq_false_iff_ne.mpr c3; have c3b1 : (a0 != 2) = true := bne_iff_ne.mpr c3
 by_cases c4 : a0 = 3
 case neg =>
  rw [if_neg c4] at H; have c4b0 : (a0 == 3) = false := beq_eq_false_iff_ne.mpr c4; have c4b1 : (a0 != 3) = true := bne_iff_ne.mpr c4; obtain rfl := Option.some.inj H
  go_enter Try.func72, Try.ntmps72
  go_wp2
  go_ret
  exact ⟨by first | rfl | (simp; done) | (simp [*]; done), by repeat (first | exact Drawn0.refl _ | apply Drawn0.step)⟩

 rw [if_pos c4] at H; have c4b0 : (a0 == 3) = true := beq_iff_eq.mpr c4; have c4b1 : (a0 != 3) = false := bne_eq_false_iff_eq.mpr c4; clear c4; obtain rfl := Option.some.inj H
 go_enter Try.func72, Try.ntmps72
 go_wp2
 go_ret
 exact ⟨by first | rfl | (simp; done) | (simp [*]; done), by repeat (first | exact Drawn0.refl _ | apply Drawn0.step)⟩
/-! ### spec_l7Sub: function 50 -/
mutual
def spec_l7Sub.l0 : Nat → Int → Int → Bool → Bool → List (S45) → Option (Bool)
 | 0, _, _, _, _, _ => none
 | k + 1, x1, x5, x102000, x102001, x102002 => if x5 < (x102002.length : Int) then (if 0 ≤ x5 then ((spec_l1In.f ((rd_T45 x102002 x5).f0) 1 7).bind fun t104 => (if t104 = true then ((spec_l7Points.f ((rd_T45 x102002 x5).f0)).bind fun t105 => (if t105 = true then ((spec_l1In.f ((rd_T45 x102002 x5).f1) 0 (wrap64 (x1 - 1))).bind fun t106 => (if t106 = true then ((spec_l7Points.f ((rd_T45 x102002 x5).f0)).bind fun t107 => (if t107 = true then (spec_l7Sub.j1 k x1 x5 false x102000 x102001 x102002 ((rd_T45 x102002 x5).f0) ((rd_T45 x102002 x5).f1)) else (spec_l7Sub.j1 k x1 x5 (((rd_T45 x102002 x5).f1) != 0) x102000 x102001 x102002 ((rd_T45 x102002 x5).f0) ((rd_T45 x102002 x5).f1)))) else (spec_l7Sub.j1 k x1 x5 true x102000 x102001 x102002 ((rd_T45 x102002 x5).f0) ((rd_T45 x102002 x5).f1)))) else ((spec_l7Points.f ((rd_T45 x102002 x5).f0)).bind fun t108 => (if t108 = true then (spec_l7Sub.j1 k x1 x5 false x102000 x102001 x102002 ((rd_T45 x102002 x5).f0) ((rd_T45 x102002 x5).f1)) else (spec_l7Sub.j1 k x1 x5 (((rd_T45 x102002 x5).f1) != 0) x102000 x102001 x102002 ((rd_T45 x102002 x5).f0) ((rd_T45 x102002 x5).f1)))))) else (spec_l7Sub.j1 k x1 x5 true x102000 x102001 x102002 ((rd_T45 x102002 x5).f0) ((rd_T45 x102002 x5).f1)))) else (none)) else (some true)
def spec_l7Sub.j1 : Nat → Int → Int → Bool → Bool → Bool → List (S45) → Int → Int → Option (Bool)
 | 0, _, _, _, _, _, _, _, _ => none
 | k + 1, x1, x5, x48, x102000, x102001, x102002, x104000, x104001 => if x48 = true then (some false) else (spec_l7Sub.l1 k x1 x5 0 x102000 x102001 x102002 x104000 x104001)
def spec_l7Sub.l1 : Nat → Int → Int → Int → Bool → Bool → List (S45) → Int → Int → Option (Bool)
 | 0, _, _, _, _, _, _, _, _ => none
 | k + 1, x1, x5, x7, x102000, x102001, x102002, x104000, x104001 => if x7 < x5 then (if 0 ≤ x7 then (if x7 < (x102002.length : Int) then (if ((rd_T45 x102002 x7).f0) = x104000 then (if x104000 = 5 then (if ((rd_T45 x102002 x7).f1) = x104001 then (some false) else (spec_l7Sub.l1 k x1 x5 (wrap64 (x7 + 1)) x102000 x102001 x102002 x104000 x104001)) else (some false)) else (spec_l7Sub.l1 k x1 x5 (wrap64 (x7 + 1)) x102000 x102001 x102002 x104000 x104001)) else (none)) else (none)) else (spec_l7Sub.l0 k x1 (wrap64 (x5 + 1)) x102000 x102001 x102002)
end
def spec_l7Sub.f (k : Nat) (a0_0 : Bool) (a0_1 : Bool) (l0_2 : List (S45)) (a1 : Int) : Option (Bool) := spec_l7Sub.l0 k a1 0 a0_0 a0_1 l0_2
theorem spec_l7Sub.mono_l : ∀ k, (∀ y0 y1 y2 y3 y4, LeO (spec_l7Sub.l0 k y0 y1 y2 y3 y4) (spec_l7Sub.l0 (k + 1) y0 y1 y2 y3 y4)) ∧ (∀ y0 y1 y2 y3 y4 y5 y6 y7, LeO (spec_l7Sub.j1 k y0 y1 y2 y3 y4 y5 y6 y7) (spec_l7Sub.j1 (k + 1) y0 y1 y2 y3 y4 y5 y6 y7)) ∧ (∀ y0 y1 y2 y3 y4 y5 y6 y7, LeO (spec_l7Sub.l1 k y0 y1 y2 y3 y4 y5 y6 y7) (spec_l7Sub.l1 (k + 1) y0 y1 y2 y3 y4 y5 y6 y7))
 | 0 => ⟨fun _ _ _ _ _ r h => by simp [spec_l7Sub.l0] at h, fun _ _ _ _ _ _ _ _ r h => by simp [spec_l7Sub.j1] at h, fun _ _ _ _ _ _ _ _ r h => by simp [spec_l7Sub.l1] at h⟩
 | k + 1 => by
  obtain ⟨ih0, ih1, ih2⟩ := spec_l7Sub.mono_l k
  refine ⟨?_, ?_, ?_⟩
  ·intro y0 y1 y2 y3 y4
   unfold spec_l7Sub.l0
   repeat' first
   | (with_reducible exact ih0 _ _ _ _ _)
   | (with_reducible exact ih1 _ _ _ _ _ _ _ _)
   | (with_reducible exact ih2 _ _ _ _ _ _ _ _)
   | (with_reducible exact LeO.refl _)
   | (with_reducible exact LeO.none _)
   | (with_reducible refine LeO.ite ?_ ?_)
   | (with_reducible refine LeO.bind ?_ (fun _ => ?_))
   | exact ih0 _ _ _ _ _
   | exact ih1 _ _ _ _ _ _ _ _
   | exact ih2 _ _ _ _ _ _ _ _
   | exact LeO.none _
   | refine LeO.ite ?_ ?_
   | refine LeO.bind ?_ (fun _ => ?_)
  ·intro y0 y1 y2 y3 y4 y5 y6 y7
   unfold spec_l7Sub.j1
   repeat' first
   | (with_reducible exact ih0 _ _ _ _ _)
   | (with_reducible exact ih1 _ _ _ _ _ _ _ _)
   | (with_reducible exact ih2 _ _ _ _ _ _ _ _)
   | (with_reducible exact LeO.refl _)
   | (with_reducible exact LeO.none _)
   | (with_reducible refine LeO.ite ?_ ?_)
   | (with_reducible refine LeO.bind ?_ (fun _ => ?_))
   | exact ih0 _ _ _ _ _
   | exact ih1 _ _ _ _ _ _ _ _
   | exact ih2 _ _ _ _ _ _ _ _
   | exact LeO.none _
   | refine LeO.ite ?_ ?_
   | refine LeO.bind ?_ (fun _ => ?_)
  ·intro y0 y1 y2 y3 y4 y5 y6 y7
   unfold spec_l7Sub.l1
   repeat' first
   | (with_reducible exact ih0 _ _ _ _ _)
   | (with_reducible exact ih1 _ _ _ _ _ _ _ _)
   | (with_reducible exact ih2 _ _ _ _ _ _ _ _)
   | (with_reducible exact LeO.refl _)
   | (with_reducible exact LeO.none _)
   | (with_reducible refine LeO.ite ?_ ?_)
   | (with_reducible refine LeO.bind ?_ (fun _ => ?_))
   | exact ih0 _ _ _ _ _
   | exact ih1 _ _ _ _ _ _ _ _
   | exact ih2 _ _ _ _ _ _ _ _
   | exact LeO.none _
   | refine LeO.ite ?_ ?_
   | refine LeO.bind ?_ (fun _ => ?_)
theorem spec_l7Sub.mono : ∀ a0 a1 a2 a3 k, LeO (spec_l7Sub.f k a0 a1 a2 a3) (spec_l7Sub.f (k + 1) a0 a1 a2 a3) := by
 intro a0 a1 a2 a3 k
 obtain ⟨ih0, ih1, ih2⟩ := spec_l7Sub.mono_l k
 unfold spec_l7Sub.f
 repeat' first
   | (with_reducible exact ih0 _ _ _ _ _)
   | (with_reducible exact ih1 _ _ _ _ _ _ _ _)
   | (with_reducible exact ih2 _ _ _ _ _ _ _ _)
   | (with_reducible exact LeO.refl _)
   | (with_reducible exact LeO.none _)
   | (with_reducible refine LeO.ite ?_ ?_)
   | (with_reducible refine LeO.bind ?_ (fun _ => ?_))
   | exact ih0 _ _ _ _ _
   | exact ih1 _ _ _ _ _ _ _ _
   | exact ih2 _ _ _ _ _ _ _ _
   | exact LeO.none _
   | refine LeO.ite ?_ ?_
   | refine LeO.bind ?_ (fun _ => ?_)
set_option maxHeartbeats 8000000 in
set_option maxRecDepth 100000 in
theorem spec_l7Sub.calls (k : Nat) (a0_0 : Bool) (a0_1 : Bool) (A0_2 : Option Addr) (c0_2 : Nat) (l0_2 : List (S45)) (a1 : Int) (r : Bool) (w : World) (hr0_2 : Kd.C k45 w A0_2 l0_2.length l0_2) (hc0_2 : l0_2.length ≤ c0_2) (h : spec_l7Sub.f k a0_0 a0_1 l0_2 a1 = some r) :
  Calls Try.prog 50 #[.agg #[.bool a0_0, .bool a0_1, .slice A0_2 l0_2.length c0_2], .int .i64 a1] w fun e w' => e = .returned (.bool r) ∧ Below w.heap.size w w' := by
 have hu43 := Try.underlying43; have hu45 := Try.underlying45; have HR0_2 := Aside0.mk hr0_2; have HC0_2 := Aside0.mk hc0_2; clear hr0_2 hc0_2; have HB := Aside0.mk (Below.refl w.heap.size w); have H : (spec_l7Sub.l0 k a1 0 a0_0 a0_1 l0_2) = some r := h; clear h
 have H' := Aside0.mk H
 clear H
 go_enter Try.func50, Try.ntmps50
 go_wp2_with (first | ((with_reducible refine gate_dst (N := 2) rfl ?_); refine box_event ?hg (N := 2) ?hd (cs := #[.bool a0_0, .bool a0_1, .slice A0_2 l0_2.length c0_2]) (t := 43) ?hr ?_; (case hd => rfl); (case hg => rfl); (case hr => first | (go_simp; done) | (go_simp; rfl)); intro gb101 hg w3 hbox hb; have n0_ := Aside0.mk (below_step belowNow hb); have n1_ := Aside0.mk (hbox); have n2_ := Aside0.mk ((by rw [hg]; exact (below_size belowNow) : w.heap.size ≤ gb101)); have n3_ := n2_; clear HB; have HB := n0_; have BK101 := n1_; have GW101 := n2_; have GE101 := n3_; clear n0_ n1_ n2_ n3_; clear hb hbox hg))
 go_loopg [5] k (fun kq v5 w' => ∃ (x5_1 : Int), v5 = .int .i64 x5_1 ∧ Aside0 (spec_l7Sub.l0 kq a1 x5_1 a0_0 a0_1 l0_2 = some r) ∧ Aside0 (kq ≤ k) ∧ Aside0 (w'.heap[gb101]? = some (.cells #[.bool a0_0, .bool a0_1, (.slice A0_2 l0_2.length c0_2)] 43 (0, 0))) ∧ Aside0 (Below w.heap.size w w'))
 case atStart => exact ⟨(0), (by first | rfl | (simp; done) | (simp [*]; done)), H', ⟨Nat.le_refl _⟩, ⟨by (with_reducible repeat (first | refine blk_drewN ?_ _ | refine blk_drew ?_ | refine blk_alloc ?_ _)); exact BK101.out⟩, ⟨belowNow⟩⟩
 case round =>
  clear H'
  (try clear p2); obtain ⟨x5_1, rfl, HA, HK1, BK101, HB⟩ := hrel
  cases gk with
  | zero => exact absurd HA.out (by simp [spec_l7Sub.l0])
  | succ k1 =>
   have H := HA.out; clear HA; simp only [spec_l7Sub.l0] at H
   by_cases c4 : x5_1 < (l0_2.length : Int)
   case neg =>
    rw [if_neg c4] at H; have c4b0 : decide (x5_1 < (l0_2.length : Int)) = false := decide_eq_false c4; clear c4; obtain rfl := Option.some.inj H; have hcz68_0 := cz1_ BK101.out 0 rfl; have hcz68_1 := cz1_ BK101.out 1 rfl; have hcz68_2 := cz1_ BK101.out 2 rfl; have hfz68_0 := blk_frozen BK101.out 0; have hfz68_1 := blk_frozen BK101.out 1; have hfz68_2 := blk_frozen BK101.out 2
    go_wp2
    go_ret
    exact ⟨by first | rfl | (simp [errW_none, errW_some] <;> rfl) | (simp [*, errW_none, errW_some] <;> rfl), belowNow⟩

   rw [if_pos c4] at H; have c4b0 : decide (x5_1 < (l0_2.length : Int)) = true := decide_eq_true c4; clear c4
   by_cases c5 : 0 ≤ x5_1
   case neg =>
    rw [if_neg c5] at H
    exact absurd H (by simp)
   rw [if_pos c5] at H; have c5b0 : decide (0 ≤ x5_1) = true := decide_eq_true c5; clear c5; have HC6 := Aside0.mk H; clear H; have hcz7_0 := cz1_ BK101.out 0 rfl; have hcz7_1 := cz1_ BK101.out 1 rfl; have hcz7_2 := cz1_ BK101.out 2 rfl; have hfz7_0 := blk_frozen BK101.out 0; have hfz7_1 := blk_frozen BK101.out 1; have hfz7_2 := blk_frozen BK101.out 2
   have p102 : 0 ≤ (x5_1 : Int) := of_decide_eq_true (by first | (with_reducible assumption) | assumption)
   have q102 : x5_1 < (l0_2.length : Int) := of_decide_eq_true (by first | (with_reducible assumption) | assumption)
   obtain ⟨ad102, e102, hx102_0, hx102_1⟩ := at_T45 HR0_2.out x5_1 p102 q102
   cases e102
   replace hx102_0 := (HB.out.cell (World.block_lt_of_cell? w _ hx102_0)).trans hx102_0; replace hx102_1 := (HB.out.cell (World.block_lt_of_cell? w _ hx102_1)).trans hx102_1; replace p102 := eq_true p102; replace q102 := eq_true q102
   go_upto_region 5 with (first | ((with_reducible refine gate_dst (N := 6) rfl ?_); refine box_event ?hg (N := 6) ?hd (cs := #[.int .i64 0, .int .i64 0]) (t := 45) ?hr ?_; (case hd => rfl); (case hg => rfl); (case hr => first | (go_simp; done) | (go_simp; rfl)); intro gb103 hg w8 hbox hb; have n0_ := Aside0.mk (blkStep (g := gb101) hb); have n1_ := Aside0.mk (below_step belowNow hb); have n2_ := Aside0.mk (hbox); have n3_ := Aside0.mk ((by rw [hg]; exact (below_size belowNow) : w.heap.size ≤ gb103)); have n4_ := n3_; have n5_ := Aside0.mk ((by rw [hg]; exact Nat.ne_of_lt (blkLt (g := gb101)) : gb101 ≠ gb103)); have n6_ := Aside0.mk ((by rw [hg]; exact Nat.ne_of_gt (blkLt (g := gb101)) : gb103 ≠ gb101)); clear BK101; clear HB; have BK101 := n0_; have HB := n1_; have BK103 := n2_; have GW103 := n3_; have GE103 := n4_; have NB101_103 := n5_; have NB103_101 := n6_; clear n0_ n1_ n2_ n3_ n4_ n5_ n6_; clear hb hbox hg; have ⟨hnb9, hnc9⟩ := nn1_ NB103_101.out; have hcz10_0 := cz1_ BK103.out 0 rfl; have hcz10_1 := cz1_ BK103.out 1 rfl; have hfz10_0 := blk_frozen BK103.out 0; have hfz10_1 := blk_frozen BK103.out 1))
   (try simp only [Act.put, List.setIfInBounds_toArray, List.set_cons_zero, List.set_cons_succ])
   go_cut [48] (fun v48 wc => ∃ (kq : Nat) (x48_5 : Bool), v48 = .bool x48_5 ∧ Aside0 (spec_l7Sub.j1 kq a1 x5_1 x48_5 a0_0 a0_1 l0_2 ((rd_T45 l0_2 x5_1).f0) ((rd_T45 l0_2 x5_1).f1) = some r) ∧ Aside0 (kq ≤ k1) ∧ Aside0 (wc.heap[gb101]? = some (.cells #[.bool a0_0, .bool a0_1, (.slice (some ad102) l0_2.length c0_2)] 43 (0, 0))) ∧ Aside0 (wc.heap[gb103]? = some (.cells #[.int .i64 ((rd_T45 l0_2 x5_1).f0), .int .i64 ((rd_T45 l0_2 x5_1).f1)] 45 (0, 0))) ∧ Aside0 (Below w.heap.size w wc))
   case first =>
    have H := HC6.out; clear HC6; replace H := Option.bind_eq_some_iff.mp H; obtain ⟨t104, A110, H⟩ := H
    replace H : (if t104 = true then ((spec_l7Points.f ((rd_T45 l0_2 x5_1).f0)).bind fun t105 => (if t105 = true then ((spec_l1In.f ((rd_T45 l0_2 x5_1).f1) 0 (wrap64 (a1 - 1))).bind fun t106 => (if t106 = true then ((spec_l7Points.f ((rd_T45 l0_2 x5_1).f0)).bind fun t107 => (if t107 = true then (spec_l7Sub.j1 k1 a1 x5_1 false a0_0 a0_1 l0_2 ((rd_T45 l0_2 x5_1).f0) ((rd_T45 l0_2 x5_1).f1)) else (spec_l7Sub.j1 k1 a1 x5_1 (((rd_T45 l0_2 x5_1).f1) != 0) a0_0 a0_1 l0_2 ((rd_T45 l0_2 x5_1).f0) ((rd_T45 l0_2 x5_1).f1)))) else (spec_l7Sub.j1 k1 a1 x5_1 true a0_0 a0_1 l0_2 ((rd_T45 l0_2 x5_1).f0) ((rd_T45 l0_2 x5_1).f1)))) else ((spec_l7Points.f ((rd_T45 l0_2 x5_1).f0)).bind fun t108 => (if t108 = true then (spec_l7Sub.j1 k1 a1 x5_1 false a0_0 a0_1 l0_2 ((rd_T45 l0_2 x5_1).f0) ((rd_T45 l0_2 x5_1).f1)) else (spec_l7Sub.j1 k1 a1 x5_1 (((rd_T45 l0_2 x5_1).f1) != 0) a0_0 a0_1 l0_2 ((rd_T45 l0_2 x5_1).f0) ((rd_T45 l0_2 x5_1).f1)))))) else (spec_l7Sub.j1 k1 a1 x5_1 true a0_0 a0_1 l0_2 ((rd_T45 l0_2 x5_1).f0) ((rd_T45 l0_2 x5_1).f1))) = some r := H
    have A11 := Aside0.mk A110; clear A110
    by_cases c12 : t104 = true
    case neg =>
     replace c12 := Bool.eq_false_iff.mpr c12; subst c12
     have H1 : (spec_l7Sub.j1 k1 a1 x5_1 true a0_0 a0_1 l0_2 ((rd_T45 l0_2 x5_1).f0) ((rd_T45 l0_2 x5_1).f1)) = some r := by rw [if_neg (show ¬ (false = true) by decide)] at H; exact H
     clear H; have H := H1; clear H1
     have H' := Aside0.mk H
     clear H; have ⟨hnb31, hnc31⟩ := nn1_ NB103_101.out; have hcz32_0 := cz1_ BK103.out 0 rfl; have hcz32_1 := cz1_ BK103.out 1 rfl; have hfz32_0 := blk_frozen BK103.out 0; have hfz32_1 := blk_frozen BK103.out 1
     go_wp2_with (first | ((with_reducible refine gate_callee (f := 36) rfl ?_); refine goesL_ (some 23) rfl rfl Try.func36 (by kernel_rfl) rfl #[.int .i64 ((rd_T45 l0_2 x5_1).f0), .int .i64 1, .int .i64 7] rfl (by (try simp only [List.map_toArray, List.map_cons, List.map_nil]); first | done | rfl | (simp only [List.length_drop, List.length_take]; rfl)) ?_; (with_reducible refine (spec_l1In.calls ((rd_T45 l0_2 x5_1).f0) 1 7 false _ A11.out).mono ?_); rintro e w' ⟨rfl, ⟨nd, rfl⟩⟩; refine ⟨_, rfl, ?_⟩))
     go_meet
     case rel => exact ⟨_, (true), (by first | rfl | (simp; done) | (simp [*]; done)), H', ⟨by have := HK1.out; first | omega | exact Nat.le_refl _⟩, ⟨blkFars⟩, ⟨by (with_reducible repeat (first | refine blk_drewN ?_ _ | refine blk_drew ?_ | refine blk_alloc ?_ _)); refine blk_put (cs := #[.int .i64 ((rd_T45 l0_2 x5_1).f0), .int .i64 0]) ?_ 1 _ rfl; (with_reducible repeat (first | refine blk_drewN ?_ _ | refine blk_drew ?_ | refine blk_alloc ?_ _)); refine blk_put (cs := #[.int .i64 0, .int .i64 0]) ?_ 0 _ rfl; (with_reducible repeat (first | refine blk_drewN ?_ _ | refine blk_drew ?_ | refine blk_alloc ?_ _)); exact BK103.out⟩, ⟨belowNow⟩⟩
    subst c12
    have H1 : ((spec_l7Points.f ((rd_T45 l0_2 x5_1).f0)).bind fun t105 => (if t105 = true then ((spec_l1In.f ((rd_T45 l0_2 x5_1).f1) 0 (wrap64 (a1 - 1))).bind fun t106 => (if t106 = true then ((spec_l7Points.f ((rd_T45 l0_2 x5_1).f0)).bind fun t107 => (if t107 = true then (spec_l7Sub.j1 k1 a1 x5_1 false a0_0 a0_1 l0_2 ((rd_T45 l0_2 x5_1).f0) ((rd_T45 l0_2 x5_1).f1)) else (spec_l7Sub.j1 k1 a1 x5_1 (((rd_T45 l0_2 x5_1).f1) != 0) a0_0 a0_1 l0_2 ((rd_T45 l0_2 x5_1).f0) ((rd_T45 l0_2 x5_1).f1)))) else (spec_l7Sub.j1 k1 a1 x5_1 true a0_0 a0_1 l0_2 ((rd_T45 l0_2 x5_1).f0) ((rd_T45 l0_2 x5_1).f1)))) else ((spec_l7Points.f ((rd_T45 l0_2 x5_1).f0)).bind fun t108 => (if t108 = true then (spec_l7Sub.j1 k1 a1 x5_1 false a0_0 a0_1 l0_2 ((rd_T45 l0_2 x5_1).f0) ((rd_T45 l0_2 x5_1).f1)) else (spec_l7Sub.j1 k1 a1 x5_1 (((rd_T45 l0_2 x5_1).f1) != 0) a0_0 a0_1 l0_2 ((rd_T45 l0_2 x5_1).f0) ((rd_T45 l0_2 x5_1).f1)))))) = some r := by rw [if_pos rfl] at H; exact H
    clear H; have H := H1; clear H1; replace H := Option.bind_eq_some_iff.mp H; obtain ⟨t105, A130, H⟩ := H
    replace H : (if t105 = true then ((spec_l1In.f ((rd_T45 l0_2 x5_1).f1) 0 (wrap64 (a1 - 1))).bind fun t106 => (if t106 = true then ((spec_l7Points.f ((rd_T45 l0_2 x5_1).f0)).bind fun t107 => (if t107 = true then (spec_l7Sub.j1 k1 a1 x5_1 false a0_0 a0_1 l0_2 ((rd_T45 l0_2 x5_1).f0) ((rd_T45 l0_2 x5_1).f1)) else (spec_l7Sub.j1 k1 a1 x5_1 (((rd_T45 l0_2 x5_1).f1) != 0) a0_0 a0_1 l0_2 ((rd_T45 l0_2 x5_1).f0) ((rd_T45 l0_2 x5_1).f1)))) else (spec_l7Sub.j1 k1 a1 x5_1 true a0_0 a0_1 l0_2 ((rd_T45 l0_2 x5_1).f0) ((rd_T45 l0_2 x5_1).f1)))) else ((spec_l7Points.f ((rd_T45 l0_2 x5_1).f0)).bind fun t108 => (if t108 = true then (spec_l7Sub.j1 k1 a1 x5_1 false a0_0 a0_1 l0_2 ((rd_T45 l0_2 x5_1).f0) ((rd_T45 l0_2 x5_1).f1)) else (spec_l7Sub.j1 k1 a1 x5_1 (((rd_T45 l0_2 x5_1).f1) != 0) a0_0 a0_1 l0_2 ((rd_T45 l0_2 x5_1).f0) ((rd_T45 l0_2 x5_1).f1))))) = some r := H
    have A13 := Aside0.mk A130; clear A130
    by_cases c14 : t105 = true
    case neg =>
     replace c14 := Bool.eq_false_iff.mpr c14; subst c14
     have H1 : ((spec_l7Points.f ((rd_T45 l0_2 x5_1).f0)).bind fun t108 => (if t108 = true then (spec_l7Sub.j1 k1 a1 x5_1 false a0_0 a0_1 l0_2 ((rd_T45 l0_2 x5_1).f0) ((rd_T45 l0_2 x5_1).f1)) else (spec_l7Sub.j1 k1 a1 x5_1 (((rd_T45 l0_2 x5_1).f1) != 0) a0_0 a0_1 l0_2 ((rd_T45 l0_2 x5_1).f0) ((rd_T45 l0_2 x5_1).f1)))) = some r := by rw [if_neg (show ¬ (false = true) by decide)] at H; exact H
     clear H; have H := H1; clear H1; replace H := Option.bind_eq_some_iff.mp H; obtain ⟨t108, A250, H⟩ := H
     replace H : (if t108 = true then (spec_l7Sub.j1 k1 a1 x5_1 false a0_0 a0_1 l0_2 ((rd_T45 l0_2 x5_1).f0) ((rd_T45 l0_2 x5_1).f1)) else (spec_l7Sub.j1 k1 a1 x5_1 (((rd_T45 l0_2 x5_1).f1) != 0) a0_0 a0_1 l0_2 ((rd_T45 l0_2 x5_1).f0) ((rd_T45 l0_2 x5_1).f1))) = some r := H
     have A25 := Aside0.mk A250; clear A250
     by_cases c26 : t108 = true
     case pos =>
      subst c26
      have H1 : (spec_l7Sub.j1 k1 a1 x5_1 false a0_0 a0_1 l0_2 ((rd_T45 l0_2 x5_1).f0) ((rd_T45 l0_2 x5_1).f1)) = some r := by rw [if_pos rfl] at H; exact H
      clear H; have H := H1; clear H1
      have H' := Aside0.mk H
      clear H; have ⟨hnb27, hnc27⟩ := nn1_ NB103_101.out; have hcz28_0 := cz1_ BK103.out 0 rfl; have hcz28_1 := cz1_ BK103.out 1 rfl; have hfz28_0 := blk_frozen BK103.out 0; have hfz28_1 := blk_frozen BK103.out 1
      exact absurd (A13.out.symm.trans A25.out) (by simp)
     replace c26 := Bool.eq_false_iff.mpr c26; subst c26
     have H1 : (spec_l7Sub.j1 k1 a1 x5_1 (((rd_T45 l0_2 x5_1).f1) != 0) a0_0 a0_1 l0_2 ((rd_T45 l0_2 x5_1).f0) ((rd_T45 l0_2 x5_1).f1)) = some r := by rw [if_neg (show ¬ (false = true) by decide)] at H; exact H
     clear H; have H := H1; clear H1
     have H' := Aside0.mk H
     clear H; have ⟨hnb29, hnc29⟩ := nn1_ NB103_101.out; have hcz30_0 := cz1_ BK103.out 0 rfl; have hcz30_1 := cz1_ BK103.out 1 rfl; have hfz30_0 := blk_frozen BK103.out 0; have hfz30_1 := blk_frozen BK103.out 1
     go_wp2_with (first | ((with_reducible refine gate_callee (f := 36) rfl ?_); refine goesL_ (some 23) rfl rfl Try.func36 (by kernel_rfl) rfl #[.int .i64 ((rd_T45 l0_2 x5_1).f0), .int .i64 1, .int .i64 7] rfl (by (try simp only [List.map_toArray, List.map_cons, List.map_nil]); first | done | rfl | (simp only [List.length_drop, List.length_take]; rfl)) ?_; (with_reducible refine (spec_l1In.calls ((rd_T45 l0_2 x5_1).f0) 1 7 true _ A11.out).mono ?_); rintro e w' ⟨rfl, ⟨nd, rfl⟩⟩; refine ⟨_, rfl, ?_⟩) | (go_at_call 72; (with_reducible refine (spec_l7Points.calls ((rd_T45 l0_2 x5_1).f0) false _ A13.out).mono ?_); rintro e w' ⟨rfl, ⟨nd, rfl⟩⟩) | (go_at_call 72; (with_reducible refine (spec_l7Points.calls ((rd_T45 l0_2 x5_1).f0) false _ A25.out).mono ?_); rintro e w' ⟨rfl, ⟨nd, rfl⟩⟩))
     go_meet
     case rel => exact ⟨_, ((((rd_T45 l0_2 x5_1).f1) != 0)), (by first | rfl | (simp; done) | (simp [*]; done)), H', ⟨by have := HK1.out; first | omega | exact Nat.le_refl _⟩, ⟨blkFars⟩, ⟨by (with_reducible repeat (first | refine blk_drewN ?_ _ | refine blk_drew ?_ | refine blk_alloc ?_ _)); refine blk_put (cs := #[.int .i64 ((rd_T45 l0_2 x5_1).f0), .int .i64 0]) ?_ 1 _ rfl; (with_reducible repeat (first | refine blk_drewN ?_ _ | refine blk_drew ?_ | refine blk_alloc ?_ _)); refine blk_put (cs := #[.int .i64 0, .int .i64 0]) ?_ 0 _ rfl; (with_reducible repeat (first | refine blk_drewN ?_ _ | refine blk_drew ?_ | refine blk_alloc ?_ _)); exact BK103.out⟩, ⟨belowNow⟩⟩
    subst c14
    have H1 : ((spec_l1In.f ((rd_T45 l0_2 x5_1).f1) 0 (wrap64 (a1 - 1))).bind fun t106 => (if t106 = true then ((spec_l7Points.f ((rd_T45 l0_2 x5_1).f0)).bind fun t107 => (if t107 = true then (spec_l7Sub.j1 k1 a1 x5_1 false a0_0 a0_1 l0_2 ((rd_T45 l0_2 x5_1).f0) ((rd_T45 l0_2 x5_1).f1)) else (spec_l7Sub.j1 k1 a1 x5_1 (((rd_T45 l0_2 x5_1).f1) != 0) a0_0 a0_1 l0_2 ((rd_T45 l0_2 x5_1).f0) ((rd_T45 l0_2 x5_1).f1)))) else (spec_l7Sub.j1 k1 a1 x5_1 true a0_0 a0_1 l0_2 ((rd_T45 l0_2 x5_1).f0) ((rd_T45 l0_2 x5_1).f1)))) = some r := by rw [if_pos rfl] at H; exact H
    clear H; have H := H1; clear H1; replace H := Option.bind_eq_some_iff.mp H; obtain ⟨t106, A150, H⟩ := H
    replace H : (if t106 = true then ((spec_l7Points.f ((rd_T45 l0_2 x5_1).f0)).bind fun t107 => (if t107 = true then (spec_l7Sub.j1 k1 a1 x5_1 false a0_0 a0_1 l0_2 ((rd_T45 l0_2 x5_1).f0) ((rd_T45 l0_2 x5_1).f1)) else (spec_l7Sub.j1 k1 a1 x5_1 (((rd_T45 l0_2 x5_1).f1) != 0) a0_0 a0_1 l0_2 ((rd_T45 l0_2 x5_1).f0) ((rd_T45 l0_2 x5_1).f1)))) else (spec_l7Sub.j1 k1 a1 x5_1 true a0_0 a0_1 l0_2 ((rd_T45 l0_2 x5_1).f0) ((rd_T45 l0_2 x5_1).f1))) = some r := H
    have A15 := Aside0.mk A150; clear A150
    by_cases c16 : t106 = true
    case neg =>
     replace c16 := Bool.eq_false_iff.mpr c16; subst c16
     have H1 : (spec_l7Sub.j1 k1 a1 x5_1 true a0_0 a0_1 l0_2 ((rd_T45 l0_2 x5_1).f0) ((rd_T45 l0_2 x5_1).f1)) = some r := by rw [if_neg (show ¬ (false = true) by decide)] at H; exact H
     clear H; have H := H1; clear H1
     have H' := Aside0.mk H
     clear H; have ⟨hnb23, hnc23⟩ := nn1_ NB103_101.out; have hcz24_0 := cz1_ BK103.out 0 rfl; have hcz24_1 := cz1_ BK103.out 1 rfl; have hfz24_0 := blk_frozen BK103.out 0; have hfz24_1 := blk_frozen BK103.out 1
     go_wp2_with (first | ((with_reducible refine gate_callee (f := 36) rfl ?_); refine goesL_ (some 23) rfl rfl Try.func36 (by kernel_rfl) rfl #[.int .i64 ((rd_T45 l0_2 x5_1).f0), .int .i64 1, .int .i64 7] rfl (by (try simp only [List.map_toArray, List.map_cons, List.map_nil]); first | done | rfl | (simp only [List.length_drop, List.length_take]; rfl)) ?_; (with_reducible refine (spec_l1In.calls ((rd_T45 l0_2 x5_1).f0) 1 7 true _ A11.out).mono ?_); rintro e w' ⟨rfl, ⟨nd, rfl⟩⟩; refine ⟨_, rfl, ?_⟩) | (go_at_call 72; (with_reducible refine (spec_l7Points.calls ((rd_T45 l0_2 x5_1).f0) true _ A13.out).mono ?_); rintro e w' ⟨rfl, ⟨nd, rfl⟩⟩) | (go_at_call 36; (with_reducible refine (spec_l1In.calls ((rd_T45 l0_2 x5_1).f1) 0 (wrap64 (a1 - 1)) false _ A15.out).mono ?_); rintro e w' ⟨rfl, ⟨nd, rfl⟩⟩))
     go_meet
     case rel => exact ⟨_, (true), (by first | rfl | (simp; done) | (simp [*]; done)), H', ⟨by have := HK1.out; first | omega | exact Nat.le_refl _⟩, ⟨blkFars⟩, ⟨by (with_reducible repeat (first | refine blk_drewN ?_ _ | refine blk_drew ?_ | refine blk_alloc ?_ _)); refine blk_put (cs := #[.int .i64 ((rd_T45 l0_2 x5_1).f0), .int .i64 0]) ?_ 1 _ rfl; (with_reducible repeat (first | refine blk_drewN ?_ _ | refine blk_drew ?_ | refine blk_alloc ?_ _)); refine blk_put (cs := #[.int .i64 0, .int .i64 0]) ?_ 0 _ rfl; (with_reducible repeat (first | refine blk_drewN ?_ _ | refine blk_drew ?_ | refine blk_alloc ?_ _)); exact BK103.out⟩, ⟨belowNow⟩⟩
    subst c16
    have H1 : ((spec_l7Points.f ((rd_T45 l0_2 x5_1).f0)).bind fun t107 => (if t107 = true then (spec_l7Sub.j1 k1 a1 x5_1 false a0_0 a0_1 l0_2 ((rd_T45 l0_2 x5_1).f0) ((rd_T45 l0_2 x5_1).f1)) else (spec_l7Sub.j1 k1 a1 x5_1 (((rd_T45 l0_2 x5_1).f1) != 0) a0_0 a0_1 l0_2 ((rd_T45 l0_2 x5_1).f0) ((rd_T45 l0_2 x5_1).f1)))) = some r := by rw [if_pos rfl] at H; exact H
    clear H; have H := H1; clear H1; replace H := Option.bind_eq_some_iff.mp H; obtain ⟨t107, A170, H⟩ := H
    replace H : (if t107 = true then (spec_l7Sub.j1 k1 a1 x5_1 false a0_0 a0_1 l0_2 ((rd_T45 l0_2 x5_1).f0) ((rd_T45 l0_2 x5_1).f1)) else (spec_l7Sub.j1 k1 a1 x5_1 (((rd_T45 l0_2 x5_1).f1) != 0) a0_0 a0_1 l0_2 ((rd_T45 l0_2 x5_1).f0) ((rd_T45 l0_2 x5_1).f1))) = some r := H
    have A17 := Aside0.mk A170; clear A170
    by_cases c18 : t107 = true
    case neg =>
     replace c18 := Bool.eq_false_iff.mpr c18; subst c18
     have H1 : (spec_l7Sub.j1 k1 a1 x5_1 (((rd_T45 l0_2 x5_1).f1) != 0) a0_0 a0_1 l0_2 ((rd_T45 l0_2 x5_1).f0) ((rd_T45 l0_2 x5_1).f1)) = some r := by rw [if_neg (show ¬ (false = true) by decide)] at H; exact H
     clear H; have H := H1; clear H1
     have H' := Aside0.mk H
     clear H; have ⟨hnb21, hnc21⟩ := nn1_ NB103_101.out; have hcz22_0 := cz1_ BK103.out 0 rfl; have hcz22_1 := cz1_ BK103.out 1 rfl; have hfz22_0 := blk_frozen BK103.out 0; have hfz22_1 := blk_frozen BK103.out 1
     exact absurd (A13.out.symm.trans A17.out) (by simp)
    subst c18
    have H1 : (spec_l7Sub.j1 k1 a1 x5_1 false a0_0 a0_1 l0_2 ((rd_T45 l0_2 x5_1).f0) ((rd_T45 l0_2 x5_1).f1)) = some r := by rw [if_pos rfl] at H; exact H
    clear H; have H := H1; clear H1
    have H' := Aside0.mk H
    clear H; have ⟨hnb19, hnc19⟩ := nn1_ NB103_101.out; have hcz20_0 := cz1_ BK103.out 0 rfl; have hcz20_1 := cz1_ BK103.out 1 rfl; have hfz20_0 := blk_frozen BK103.out 0; have hfz20_1 := blk_frozen BK103.out 1
    go_wp2_with (first | ((with_reducible refine gate_callee (f := 36) rfl ?_); refine goesL_ (some 23) rfl rfl Try.func36 (by kernel_rfl) rfl #[.int .i64 ((rd_T45 l0_2 x5_1).f0), .int .i64 1, .int .i64 7] rfl (by (try simp only [List.map_toArray, List.map_cons, List.map_nil]); first | done | rfl | (simp only [List.length_drop, List.length_take]; rfl)) ?_; (with_reducible refine (spec_l1In.calls ((rd_T45 l0_2 x5_1).f0) 1 7 true _ A11.out).mono ?_); rintro e w' ⟨rfl, ⟨nd, rfl⟩⟩; refine ⟨_, rfl, ?_⟩) | (go_at_call 72; (with_reducible refine (spec_l7Points.calls ((rd_T45 l0_2 x5_1).f0) true _ A13.out).mono ?_); rintro e w' ⟨rfl, ⟨nd, rfl⟩⟩) | (go_at_call 36; (with_reducible refine (spec_l1In.calls ((rd_T45 l0_2 x5_1).f1) 0 (wrap64 (a1 - 1)) true _ A15.out).mono ?_); rintro e w' ⟨rfl, ⟨nd, rfl⟩⟩) | (go_at_call 72; (with_reducible refine (spec_l7Points.calls ((rd_T45 l0_2 x5_1).f0) true _ A17.out).mono ?_); rintro e w' ⟨rfl, ⟨nd, rfl⟩⟩))
    go_meet
    case rel => exact ⟨_, (false), (by first | rfl | (simp; done) | (simp [*]; done)), H', ⟨by have := HK1.out; first | omega | exact Nat.le_refl _⟩, ⟨blkFars⟩, ⟨by (with_reducible repeat (first | refine blk_drewN ?_ _ | refine blk_drew ?_ | refine blk_alloc ?_ _)); refine blk_put (cs := #[.int .i64 ((rd_T45 l0_2 x5_1).f0), .int .i64 0]) ?_ 1 _ rfl; (with_reducible repeat (first | refine blk_drewN ?_ _ | refine blk_drew ?_ | refine blk_alloc ?_ _)); refine blk_put (cs := #[.int .i64 0, .int .i64 0]) ?_ 0 _ rfl; (with_reducible repeat (first | refine blk_drewN ?_ _ | refine blk_drew ?_ | refine blk_alloc ?_ _)); exact BK103.out⟩, ⟨belowNow⟩⟩
   case rest =>
    clear HC6; (try clear c1); (try clear p1); (try clear q1); (try clear hx1); (try clear c2); (try clear p2); (try clear c3); (try clear c4); (try clear c4b0); (try clear c5); (try clear c5b0); (try clear p6); (try clear c9); (try clear p10); (try clear q10); (try clear hx10); (try clear c12); (try clear c14); (try clear c16); (try clear c18); (try clear c19); (try clear c21); (try clear c23); (try clear c26); (try clear c27); (try clear c29); (try clear c31); (try clear hcz10_0 hcz10_1); (try clear hcz20_0 hcz20_1); (try clear hcz22_0 hcz22_1); (try clear hcz24_0 hcz24_1); (try clear hcz28_0 hcz28_1); (try clear hcz30_0 hcz30_1); (try clear hcz32_0 hcz32_1); (try clear hcz7_0 hcz7_1 hcz7_2); (try clear hfz10_0 hfz10_1); (try clear hfz20_0 hfz20_1); (try clear hfz22_0 hfz22_1); (try clear hfz24_0 hfz24_1); (try clear hfz28_0 hfz28_1); (try clear hfz30_0 hfz30_1); (try clear hfz32_0 hfz32_1); (try clear hfz7_0 hfz7_1 hfz7_2); (try clear hx102_0); (try clear hx102_1); (try clear p102); (try clear p2); (try clear q102); obtain ⟨kq, x48_5, rfl, HA, HJ5, BK101, BK103, HB⟩ := hcut
    cases kq with
    | zero => exact absurd HA.out (by simp [spec_l7Sub.j1])
    | succ kj5 =>
     have H := HA.out; clear HA; simp only [spec_l7Sub.j1] at H
     by_cases c33 : x48_5 = true
     case pos =>
      subst c33
      have H1 : (some false) = some r := by rw [if_pos rfl] at H; exact H
      clear H; have H := H1; clear H1; obtain rfl := Option.some.inj H
      go_wp2
      go_ret
      exact ⟨by first | rfl | (simp [errW_none, errW_some] <;> rfl) | (simp [*, errW_none, errW_some] <;> rfl), belowNow⟩
     replace c33 := Bool.eq_false_iff.mpr c33; subst c33
     have H1 : (spec_l7Sub.l1 kj5 a1 x5_1 0 a0_0 a0_1 l0_2 ((rd_T45 l0_2 x5_1).f0) ((rd_T45 l0_2 x5_1).f1)) = some r := by rw [if_neg (show ¬ (false = true) by decide)] at H; exact H
     clear H; have H := H1; clear H1
     have H' := Aside0.mk H
     clear H
     go_wp2
     go_loopg [7] kj5 (fun kq v7 w' => ∃ (x7_3 : Int), v7 = .int .i64 x7_3 ∧ Aside0 (spec_l7Sub.l1 kq a1 x5_1 x7_3 a0_0 a0_1 l0_2 ((rd_T45 l0_2 x5_1).f0) ((rd_T45 l0_2 x5_1).f1) = some r) ∧ Aside0 (kq ≤ kj5) ∧ Aside0 (w'.heap[gb101]? = some (.cells #[.bool a0_0, .bool a0_1, (.slice (some ad102) l0_2.length c0_2)] 43 (0, 0))) ∧ Aside0 (w'.heap[gb103]? = some (.cells #[.int .i64 ((rd_T45 l0_2 x5_1).f0), .int .i64 ((rd_T45 l0_2 x5_1).f1)] 45 (0, 0))) ∧ Aside0 (Below w.heap.size w w'))
     case atStart => exact ⟨(0), (by first | rfl | (simp; done) | (simp [*]; done)), H', ⟨Nat.le_refl _⟩, ⟨by (with_reducible repeat (first | refine blk_drewN ?_ _ | refine blk_drew ?_ | refine blk_alloc ?_ _)); exact BK101.out⟩, ⟨by (with_reducible repeat (first | refine blk_drewN ?_ _ | refine blk_drew ?_ | refine blk_alloc ?_ _)); exact BK103.out⟩, ⟨belowNow⟩⟩
     case round =>
      clear H'
      (try clear c1); (try clear p1); (try clear q1); (try clear hx1); (try clear c2); (try clear p2); (try clear c3); (try clear c4); (try clear c4b0); (try clear c5); (try clear c5b0); (try clear p6); (try clear c9); (try clear p10); (try clear q10); (try clear hx10); (try clear c12); (try clear c14); (try clear c16); (try clear c18); (try clear c19); (try clear c21); (try clear c23); (try clear c26); (try clear c27); (try clear c29); (try clear c31); (try clear c33); (try clear hcz10_0 hcz10_1); (try clear hcz20_0 hcz20_1); (try clear hcz22_0 hcz22_1); (try clear hcz24_0 hcz24_1); (try clear hcz28_0 hcz28_1); (try clear hcz30_0 hcz30_1); (try clear hcz32_0 hcz32_1); (try clear hcz7_0 hcz7_1 hcz7_2); (try clear hfz10_0 hfz10_1); (try clear hfz20_0 hfz20_1); (try clear hfz22_0 hfz22_1); (try clear hfz24_0 hfz24_1); (try clear hfz28_0 hfz28_1); (try clear hfz30_0 hfz30_1); (try clear hfz32_0 hfz32_1); (try clear hfz7_0 hfz7_1 hfz7_2); (try clear hx102_0); (try clear hx102_1); (try clear p1); (try clear p10); (try clear p102); (try clear p2); (try clear p6); (try clear q1); (try clear q10); (try clear q102); obtain ⟨x7_3, rfl, HA, HK3, BK101, BK103, HB⟩ := hrel
      cases gk with
      | zero => exact absurd HA.out (by simp [spec_l7Sub.l1])
      | succ k3 =>
       have H := HA.out; clear HA; simp only [spec_l7Sub.l1] at H
       by_cases c34 : x7_3 < x5_1
       case neg =>
        rw [if_neg c34] at H; have c34b0 : decide (x7_3 < x5_1) = false := decide_eq_false c34; clear c34
        have H' := Aside0.mk H
        clear H
        go_wp2
        go_roundg k3
        case measure => have := HK1.out; have := HJ5.out; have := HK3.out; omega
        case rel => exact ⟨(wrap64 (x5_1 + 1)), (by first | rfl | (simp; done) | (simp [*]; done)), H', ⟨by have := HK1.out; have := HJ5.out; have := HK3.out; omega⟩, ⟨by (with_reducible repeat (first | refine blk_drewN ?_ _ | refine blk_drew ?_ | refine blk_alloc ?_ _)); exact BK101.out⟩, ⟨belowNow⟩⟩
       rw [if_pos c34] at H; have c34b0 : decide (x7_3 < x5_1) = true := decide_eq_true c34; clear c34
       by_cases c35 : 0 ≤ x7_3
       case neg =>
        rw [if_neg c35] at H
        exact absurd H (by simp)
       rw [if_pos c35] at H; have c35b0 : decide (0 ≤ x7_3) = true := decide_eq_true c35; clear c35
       by_cases c36 : x7_3 < (l0_2.length : Int)
       case neg =>
        rw [if_neg c36] at H
        exact absurd H (by simp)
       rw [if_pos c36] at H; have c36b0 : decide (x7_3 < (l0_2.length : Int)) = true := decide_eq_true c36; clear c36
       by_cases c37 : ((rd_T45 l0_2 x7_3).f0) = ((rd_T45 l0_2 x5_1).f0)
       case neg =>
        rw [if_neg c37] at H; have c37b0 : (((rd_T45 l0_2 x7_3).f0) == ((rd_T45 l0_2 x5_1).f0)) = false := beq_eq_false_iff_ne.mpr c37; have c37b1 : (((rd_T45 l0_2 x7_3).f0) != ((rd_T45 l0_2 x5_1).f0)) = true := bne_iff_ne.mpr c37
        have H' := Aside0.mk H
        clear H; have ⟨hnb61, hnc61⟩ := nn1_ NB101_103.out; have hcz62_0 := cz1_ BK101.out 0 rfl; have hcz62_1 := cz1_ BK101.out 1 rfl; have hcz62_2 := cz1_ BK101.out 2 rfl; have hfz62_0 := blk_frozen BK101.out 0; have hfz62_1 := blk_frozen BK101.out 1; have hfz62_2 := blk_frozen BK101.out 2
        have p109 : 0 ≤ (x7_3 : Int) := of_decide_eq_true (by first | (with_reducible assumption) | assumption)
        have q109 : x7_3 < (l0_2.length : Int) := of_decide_eq_true (by first | (with_reducible assumption) | assumption)
        obtain ⟨ad109, e109, hx109_0, hx109_1⟩ := at_T45 HR0_2.out x7_3 p109 q109
        obtain rfl : ad102 = ad109 := (by injection e109)
        replace hx109_0 := (HB.out.cell (World.block_lt_of_cell? w _ hx109_0)).trans hx109_0; replace hx109_1 := (HB.out.cell (World.block_lt_of_cell? w _ hx109_1)).trans hx109_1; replace p109 := eq_true p109; replace q109 := eq_true q109
        go_wp2_with (first | ((with_reducible refine gate_dst (N := 8) rfl ?_); refine box_event ?hg (N := 8) ?hd (cs := #[.int .i64 0, .int .i64 0]) (t := 45) ?hr ?_; (case hd => rfl); (case hg => rfl); (case hr => first | (go_simp; done) | (go_simp; rfl)); intro gb110 hg w63 hbox hb; have n0_ := Aside0.mk (blkStep (g := gb101) hb); have n1_ := Aside0.mk (blkStep (g := gb103) hb); have n2_ := Aside0.mk (below_step belowNow hb); have n3_ := Aside0.mk (hbox); have n4_ := Aside0.mk ((by rw [hg]; exact (below_size belowNow) : w.heap.size ≤ gb110)); have n5_ := n4_; have n6_ := Aside0.mk ((by rw [hg]; exact Nat.ne_of_lt (blkLt (g := gb101)) : gb101 ≠ gb110)); have n7_ := Aside0.mk ((by rw [hg]; exact Nat.ne_of_gt (blkLt (g := gb101)) : gb110 ≠ gb101)); have n8_ := Aside0.mk ((by rw [hg]; exact Nat.ne_of_lt (blkLt (g := gb103)) : gb103 ≠ gb110)); have n9_ := Aside0.mk ((by rw [hg]; exact Nat.ne_of_gt (blkLt (g := gb103)) : gb110 ≠ gb103)); clear BK101; clear BK103; clear HB; have BK101 := n0_; have BK103 := n1_; have HB := n2_; have BK110 := n3_; have GW110 := n4_; have GE110 := n5_; have NB101_110 := n6_; have NB110_101 := n7_; have NB103_110 := n8_; have NB110_103 := n9_; clear n0_ n1_ n2_ n3_ n4_ n5_ n6_ n7_ n8_ n9_; clear hb hbox hg; have ⟨hnb64, hnc64⟩ := nn1_ NB110_101.out; have ⟨hnb65, hnc65⟩ := nn1_ NB110_103.out; have hcz66_0 := cz1_ BK110.out 0 rfl; have hcz66_1 := cz1_ BK110.out 1 rfl; have hfz66_0 := blk_frozen BK110.out 0; have hfz66_1 := blk_frozen BK110.out 1; have hcz67_0 := cz1_ BK103.out 0 rfl; have hcz67_1 := cz1_ BK103.out 1 rfl; have hfz67_0 := blk_frozen BK103.out 0; have hfz67_1 := blk_frozen BK103.out 1))
        go_roundg k3
        case measure => have := HK1.out; have := HJ5.out; have := HK3.out; omega
        case rel => exact ⟨(wrap64 (x7_3 + 1)), (by first | rfl | (simp; done) | (simp [*]; done)), H', ⟨by have := HK1.out; have := HJ5.out; have := HK3.out; omega⟩, ⟨blkFars⟩, ⟨blkFars⟩, ⟨belowNow⟩⟩
       rw [if_pos c37] at H; have c37b0 : (((rd_T45 l0_2 x7_3).f0) == ((rd_T45 l0_2 x5_1).f0)) = true := beq_iff_eq.mpr c37; have c37b1 : (((rd_T45 l0_2 x7_3).f0) != ((rd_T45 l0_2 x5_1).f0)) = false := bne_eq_false_iff_eq.mpr c37; clear c37
       by_cases c38 : ((rd_T45 l0_2 x5_1).f0) = 5
       case neg =>
        rw [if_neg c38] at H; have c38b0 : (((rd_T45 l0_2 x5_1).f0) == 5) = false := beq_eq_false_iff_ne.mpr c38; have c38b1 : (((rd_T45 l0_2 x5_1).f0) != 5) = true := bne_iff_ne.mpr c38; obtain rfl := Option.some.inj H; have ⟨hnb54, hnc54⟩ := nn1_ NB101_103.out; have hcz55_0 := cz1_ BK101.out 0 rfl; have hcz55_1 := cz1_ BK101.out 1 rfl; have hcz55_2 := cz1_ BK101.out 2 rfl; have hfz55_0 := blk_frozen BK101.out 0; have hfz55_1 := blk_frozen BK101.out 1; have hfz55_2 := blk_frozen BK101.out 2
        have p109 : 0 ≤ (x7_3 : Int) := of_decide_eq_true (by first | (with_reducible assumption) | assumption)
        have q109 : x7_3 < (l0_2.length : Int) := of_decide_eq_true (by first | (with_reducible assumption) | assumption)
        obtain ⟨ad109, e109, hx109_0, hx109_1⟩ := at_T45 HR0_2.out x7_3 p109 q109
        obtain rfl : ad102 = ad109 := (by injection e109)
        replace hx109_0 := (HB.out.cell (World.block_lt_of_cell? w _ hx109_0)).trans hx109_0; replace hx109_1 := (HB.out.cell (World.block_lt_of_cell? w _ hx109_1)).trans hx109_1; replace p109 := eq_true p109; replace q109 := eq_true q109
        go_wp2_with (first | ((with_reducible refine gate_dst (N := 8) rfl ?_); refine box_event ?hg (N := 8) ?hd (cs := #[.int .i64 0, .int .i64 0]) (t := 45) ?hr ?_; (case hd => rfl); (case hg => rfl); (case hr => first | (go_simp; done) | (go_simp; rfl)); intro gb110 hg w56 hbox hb; have n0_ := Aside0.mk (blkStep (g := gb101) hb); have n1_ := Aside0.mk (blkStep (g := gb103) hb); have n2_ := Aside0.mk (below_step belowNow hb); have n3_ := Aside0.mk (hbox); have n4_ := Aside0.mk ((by rw [hg]; exact (below_size belowNow) : w.heap.size ≤ gb110)); have n5_ := n4_; have n6_ := Aside0.mk ((by rw [hg]; exact Nat.ne_of_lt (blkLt (g := gb101)) : gb101 ≠ gb110)); have n7_ := Aside0.mk ((by rw [hg]; exact Nat.ne_of_gt (blkLt (g := gb101)) : gb110 ≠ gb101)); have n8_ := Aside0.mk ((by rw [hg]; exact Nat.ne_of_lt (blkLt (g := gb103)) : gb103 ≠ gb110)); have n9_ := Aside0.mk ((by rw [hg]; exact Nat.ne_of_gt (blkLt (g := gb103)) : gb110 ≠ gb103)); clear BK101; clear BK103; clear HB; have BK101 := n0_; have BK103 := n1_; have HB := n2_; have BK110 := n3_; have GW110 := n4_; have GE110 := n5_; have NB101_110 := n6_; have NB110_101 := n7_; have NB103_110 := n8_; have NB110_103 := n9_; clear n0_ n1_ n2_ n3_ n4_ n5_ n6_ n7_ n8_ n9_; clear hb hbox hg; have ⟨hnb57, hnc57⟩ := nn1_ NB110_101.out; have ⟨hnb58, hnc58⟩ := nn1_ NB110_103.out; have hcz59_0 := cz1_ BK110.out 0 rfl; have hcz59_1 := cz1_ BK110.out 1 rfl; have hfz59_0 := blk_frozen BK110.out 0; have hfz59_1 := blk_frozen BK110.out 1; have hcz60_0 := cz1_ BK103.out 0 rfl; have hcz60_1 := cz1_ BK103.out 1 rfl; have hfz60_0 := blk_frozen BK103.out 0; have hfz60_1 := blk_frozen BK103.out 1))
        go_ret
        exact ⟨by first | rfl | (simp [errW_none, errW_some] <;> rfl) | (simp [*, errW_none, errW_some] <;> rfl), belowNow⟩
       rw [if_pos c38] at H; have c38b0 : (((rd_T45 l0_2 x5_1).f0) == 5) = true := beq_iff_eq.mpr c38; have c38b1 : (((rd_T45 l0_2 x5_1).f0) != 5) = false := bne_eq_false_iff_eq.mpr c38; clear c38
       by_cases c39 : ((rd_T45 l0_2 x7_3).f1) = ((rd_T45 l0_2 x5_1).f1)
       case pos =>
        rw [if_pos c39] at H; have c39b0 : (((rd_T45 l0_2 x7_3).f1) == ((rd_T45 l0_2 x5_1).f1)) = true := beq_iff_eq.mpr c39; have c39b1 : (((rd_T45 l0_2 x7_3).f1) != ((rd_T45 l0_2 x5_1).f1)) = false := bne_eq_false_iff_eq.mpr c39; clear c39; obtain rfl := Option.some.inj H; have ⟨hnb40, hnc40⟩ := nn1_ NB101_103.out; have hcz41_0 := cz1_ BK101.out 0 rfl; have hcz41_1 := cz1_ BK101.out 1 rfl; have hcz41_2 := cz1_ BK101.out 2 rfl; have hfz41_0 := blk_frozen BK101.out 0; have hfz41_1 := blk_frozen BK101.out 1; have hfz41_2 := blk_frozen BK101.out 2
        have p109 : 0 ≤ (x7_3 : Int) := of_decide_eq_true (by first | (with_reducible assumption) | assumption)
        have q109 : x7_3 < (l0_2.length : Int) := of_decide_eq_true (by first | (with_reducible assumption) | assumption)
        obtain ⟨ad109, e109, hx109_0, hx109_1⟩ := at_T45 HR0_2.out x7_3 p109 q109
        obtain rfl : ad102 = ad109 := (by injection e109)
        replace hx109_0 := (HB.out.cell (World.block_lt_of_cell? w _ hx109_0)).trans hx109_0; replace hx109_1 := (HB.out.cell (World.block_lt_of_cell? w _ hx109_1)).trans hx109_1; replace p109 := eq_true p109; replace q109 := eq_true q109
        go_wp2_with (first | ((with_reducible refine gate_dst (N := 8) rfl ?_); refine box_event ?hg (N := 8) ?hd (cs := #[.int .i64 0, .int .i64 0]) (t := 45) ?hr ?_; (case hd => rfl); (case hg => rfl); (case hr => first | (go_simp; done) | (go_simp; rfl)); intro gb110 hg w42 hbox hb; have n0_ := Aside0.mk (blkStep (g := gb101) hb); have n1_ := Aside0.mk (blkStep (g := gb103) hb); have n2_ := Aside0.mk (below_step belowNow hb); have n3_ := Aside0.mk (hbox); have n4_ := Aside0.mk ((by rw [hg]; exact (below_size belowNow) : w.heap.size ≤ gb110)); have n5_ := n4_; have n6_ := Aside0.mk ((by rw [hg]; exact Nat.ne_of_lt (blkLt (g := gb101)) : gb101 ≠ gb110)); have n7_ := Aside0.mk ((by rw [hg]; exact Nat.ne_of_gt (blkLt (g := gb101)) : gb110 ≠ gb101)); have n8_ := Aside0.mk ((by rw [hg]; exact Nat.ne_of_lt (blkLt (g := gb103)) : gb103 ≠ gb110)); have n9_ := Aside0.mk ((by rw [hg]; exact Nat.ne_of_gt (blkLt (g := gb103)) : gb110 ≠ gb103)); clear BK101; clear BK103; clear HB; have BK101 := n0_; have BK103 := n1_; have HB := n2_; have BK110 := n3_; have GW110 := n4_; have GE110 := n5_; have NB101_110 := n6_; have NB110_101 := n7_; have NB103_110 := n8_; have NB110_103 := n9_; clear n0_ n1_ n2_ n3_ n4_ n5_ n6_ n7_ n8_ n9_; clear hb hbox hg; have ⟨hnb43, hnc43⟩ := nn1_ NB110_101.out; have ⟨hnb44, hnc44⟩ := nn1_ NB110_103.out; have hcz45_0 := cz1_ BK110.out 0 rfl; have hcz45_1 := cz1_ BK110.out 1 rfl; have hfz45_0 := blk_frozen BK110.out 0; have hfz45_1 := blk_frozen BK110.out 1; have hcz46_0 := cz1_ BK103.out 0 rfl; have hcz46_1 := cz1_ BK103.out 1 rfl; have hfz46_0 := blk_frozen BK103.out 0; have hfz46_1 := blk_frozen BK103.out 1))
        go_ret
        exact ⟨by first | rfl | (simp [errW_none, errW_some] <;> rfl) | (simp [*, errW_none, errW_some] <;> rfl), belowNow⟩
       rw [if_neg c39] at H; have c39b0 : (((rd_T45 l0_2 x7_3).f1) == ((rd_T45 l0_2 x5_1).f1)) = false := beq_eq_false_iff_ne.mpr c39; have c39b1 : (((rd_T45 l0_2 x7_3).f1) != ((rd_T45 l0_2 x5_1).f1)) = true := bne_iff_ne.mpr c39
       have H' := Aside0.mk H
       clear H; have ⟨hnb47, hnc47⟩ := nn1_ NB101_103.out; have hcz48_0 := cz1_ BK101.out 0 rfl; have hcz48_1 := cz1_ BK101.out 1 rfl; have hcz48_2 := cz1_ BK101.out 2 rfl; have hfz48_0 := blk_frozen BK101.out 0; have hfz48_1 := blk_frozen BK101.out 1; have hfz48_2 := blk_frozen BK101.out 2
       have p109 : 0 ≤ (x7_3 : Int) := of_decide_eq_true (by first | (with_reducible assumption) | assumption)
       have q109 : x7_3 < (l0_2.length : Int) := of_decide_eq_true (by first | (with_reducible assumption) | assumption)
       obtain ⟨ad109, e109, hx109_0, hx109_1⟩ := at_T45 HR0_2.out x7_3 p109 q109
       obtain rfl : ad102 = ad109 := (by injection e109)
       replace hx109_0 := (HB.out.cell (World.block_lt_of_cell? w _ hx109_0)).trans hx109_0; replace hx109_1 := (HB.out.cell (World.block_lt_of_cell? w _ hx109_1)).trans hx109_1; replace p109 := eq_true p109; replace q109 := eq_true q109
       go_wp2_with (first | ((with_reducible refine gate_dst (N := 8) rfl ?_); refine box_event ?hg (N := 8) ?hd (cs := #[.int .i64 0, .int .i64 0]) (t := 45) ?hr ?_; (case hd => rfl); (case hg => rfl); (case hr => first | (go_simp; done) | (go_simp; rfl)); intro gb110 hg w49 hbox hb; have n0_ := Aside0.mk (blkStep (g := gb101) hb); have n1_ := Aside0.mk (blkStep (g := gb103) hb); have n2_ := Aside0.mk (below_step belowNow hb); have n3_ := Aside0.mk (hbox); have n4_ := Aside0.mk ((by rw [hg]; exact (below_size belowNow) : w.heap.size ≤ gb110)); have n5_ := n4_; have n6_ := Aside0.mk ((by rw [hg]; exact Nat.ne_of_lt (blkLt (g := gb101)) : gb101 ≠ gb110)); have n7_ := Aside0.mk ((by rw [hg]; exact Nat.ne_of_gt (blkLt (g := gb101)) : gb110 ≠ gb101)); have n8_ := Aside0.mk ((by rw [hg]; exact Nat.ne_of_lt (blkLt (g := gb103)) : gb103 ≠ gb110)); have n9_ := Aside0.mk ((by rw [hg]; exact Nat.ne_of_gt (blkLt (g := gb103)) : gb110 ≠ gb103)); clear BK101; clear BK103; clear HB; have BK101 := n0_; have BK103 := n1_; have HB := n2_; have BK110 := n3_; have GW110 := n4_; have GE110 := n5_; have NB101_110 := n6_; have NB110_101 := n7_; have NB103_110 := n8_; have NB110_103 := n9_; clear n0_ n1_ n2_ n3_ n4_ n5_ n6_ n7_ n8_ n9_; clear hb hbox hg; have ⟨hnb50, hnc50⟩ := nn1_ NB110_101.out; have ⟨hnb51, hnc51⟩ := nn1_ NB110_103.out; have hcz52_0 := cz1_ BK110.out 0 rfl; have hcz52_1 := cz1_ BK110.out 1 rfl; have hfz52_0 := blk_frozen BK110.out 0; have hfz52_1 := blk_frozen BK110.out 1; have hcz53_0 := cz1_ BK103.out 0 rfl; have hcz53_1 := cz1_ BK103.out 1 rfl; have hfz53_0 := blk_frozen BK103.out 0; have hfz53_1 := blk_frozen BK103.out 1))
       go_roundg k3
       case measure => have := HK1.out; have := HJ5.out; have := HK3.out; omega
       case rel => exact ⟨(wrap64 (x7_3 + 1)), (by first | rfl | (simp; done) | (simp [*]; done)), H', ⟨by have := HK1.out; have := HJ5.out; have := HK3.out; omega⟩, ⟨blkFars⟩, ⟨blkFars⟩, ⟨belowNow⟩⟩
/-! ### spec_SubsOk: function 22 -/
def spec_SubsOk.l0 : Nat → List (S43) → Int → Option (Bool)
 | 0, _, _ => none
 | k + 1, x0, x3 => if x3 < (x0.length : Int) then (if 0 ≤ x3 then ((spec_l7Sub.f k ((rd_T43 x0 x3).f0) ((rd_T43 x0 x3).f1) ((rd_T43 x0 x3).f2) (x0.length : Int)).bind fun t112 => (if t112 = true then (spec_SubsOk.l0 k x0 (wrap64 (x3 + 1))) else (some false))) else (none)) else ((spec_l1In.f (x0.length : Int) 1 16).bind fun t113 => (some t113))
def spec_SubsOk.f (k : Nat) (l0 : List (S43)) : Option (Bool) := spec_SubsOk.l0 k l0 0
theorem spec_SubsOk.mono_l : ∀ k, (∀ y0 y1, LeO (spec_SubsOk.l0 k y0 y1) (spec_SubsOk.l0 (k + 1) y0 y1))
 | 0 => fun _ _ r h => by simp [spec_SubsOk.l0] at h
 | k + 1 => by
  have ih0 := spec_SubsOk.mono_l k
  ·intro y0 y1
   unfold spec_SubsOk.l0
   repeat' first
   | (with_reducible exact ih0 _ _)
   | (with_reducible exact spec_l7Sub.mono _ _ _ _ _)
   | (with_reducible exact LeO.refl _)
   | (with_reducible exact LeO.none _)
   | (with_reducible refine LeO.ite ?_ ?_)
   | (with_reducible refine LeO.bind ?_ (fun _ => ?_))
   | exact ih0 _ _
   | exact spec_l7Sub.mono _ _ _ _ _
   | exact LeO.none _
   | refine LeO.ite ?_ ?_
   | refine LeO.bind ?_ (fun _ => ?_)
theorem spec_SubsOk.mono : ∀ a0 k, LeO (spec_SubsOk.f k a0) (spec_SubsOk.f (k + 1) a0) := by
 intro a0 k
 have ih0 := spec_SubsOk.mono_l k
 unfold spec_SubsOk.f
 repeat' first
   | (with_reducible exact ih0 _ _)
   | (with_reducible exact spec_l7Sub.mono _ _ _ _ _)
   | (with_reducible exact LeO.refl _)
   | (with_reducible exact LeO.none _)
   | (with_reducible refine LeO.ite ?_ ?_)
   | (with_reducible refine LeO.bind ?_ (fun _ => ?_))
   | exact ih0 _ _
   | exact spec_l7Sub.mono _ _ _ _ _
   | exact LeO.none _
   | refine LeO.ite ?_ ?_
   | refine LeO.bind ?_ (fun _ => ?_)
set_option maxHeartbeats 8000000 in
set_option maxRecDepth 100000 in
theorem spec_SubsOk.calls (k : Nat) (A0 : Option Addr) (c0 : Nat) (l0 : List (S43)) (r : Bool) (w : World) (hr0 : Kd.C k43 w A0 l0.length l0) (hc0 : l0.length ≤ c0) (h : spec_SubsOk.f k l0 = some r) :
  Calls Try.prog 22 #[.slice A0 l0.length c0] w fun e w' => e = .returned (.bool r) ∧ Below w.heap.size w w' := by
 have hu43 := Try.underlying43; have HR0 := Aside0.mk hr0; have HC0 := Aside0.mk hc0; clear hr0 hc0; have HB := Aside0.mk (Below.refl w.heap.size w); have H : (spec_SubsOk.l0 k l0 0) = some r := h; clear h
 have H' := Aside0.mk H
 clear H
 go_enter Try.func22, Try.ntmps22
 go_wp2
 go_loopg [3] k (fun kq v3 w' => ∃ (x3_1 : Int), v3 = .int .i64 x3_1 ∧ Aside0 (spec_SubsOk.l0 kq l0 x3_1 = some r) ∧ Aside0 (kq ≤ k) ∧ Aside0 (Below w.heap.size w w'))
 case atStart => exact ⟨(0), (by first | rfl | (simp; done) | (simp [*]; done)), H', ⟨Nat.le_refl _⟩, ⟨belowNow⟩⟩
 case round =>
  clear H'
  obtain ⟨x3_1, rfl, HA, HK1, HB⟩ := hrel
  cases gk with
  | zero => exact absurd HA.out (by simp [spec_SubsOk.l0])
  | succ k1 =>
   have H := HA.out; clear HA; simp only [spec_SubsOk.l0] at H
   by_cases c2 : x3_1 < (l0.length : Int)
   case neg =>
    rw [if_neg c2] at H; have c2b0 : decide (x3_1 < (l0.length : Int)) = false := decide_eq_false c2; clear c2; replace H := Option.bind_eq_some_iff.mp H; obtain ⟨t113, A80, H⟩ := H
    replace H : (some t113) = some r := H
    have A8 := Aside0.mk A80; clear A80; obtain rfl := Option.some.inj H
    go_wp2_with (first | ((with_reducible refine gate_callee (f := 36) rfl ?_); refine goesL_ (some 20) rfl rfl Try.func36 (by kernel_rfl) rfl #[.int .i64 (l0.length : Int), .int .i64 1, .int .i64 16] rfl (by (try simp only [List.map_toArray, List.map_cons, List.map_nil]); first | done | rfl | (simp only [List.length_drop, List.length_take]; rfl)) ?_; (with_reducible refine (spec_l1In.calls (l0.length : Int) 1 16 t113 _ A8.out).mono ?_); rintro e w' ⟨rfl, ⟨nd, rfl⟩⟩; refine ⟨_, rfl, ?_⟩))
    go_ret
    exact ⟨by first | rfl | (simp [errW_none, errW_some] <;> rfl) | (simp [*, errW_none, errW_some] <;> rfl), belowNow⟩

   rw [if_pos c2] at H; have c2b0 : decide (x3_1 < (l0.length : Int)) = true := decide_eq_true c2; clear c2
   by_cases c3 : 0 ≤ x3_1
   case neg =>
    rw [if_neg c3] at H
    exact absurd H (by simp)
   rw [if_pos c3] at H; have c3b0 : decide (0 ≤ x3_1) = true := decide_eq_true c3; clear c3; replace H := Option.bind_eq_some_iff.mp H; obtain ⟨t112, A40, H⟩ := H
   replace H : (if t112 = true then (spec_SubsOk.l0 k1 l0 (wrap64 (x3_1 + 1))) else (some false)) = some r := H
   have A4 := Aside0.mk A40; clear A40
   by_cases c5 : t112 = true
   case neg =>
    replace c5 := Bool.eq_false_iff.mpr c5; subst c5
    have H1 : (some false) = some r := by rw [if_neg (show ¬ (false = true) by decide)] at H; exact H
    clear H; have H := H1; clear H1; obtain rfl := Option.some.inj H
    have p111 : 0 ≤ (x3_1 : Int) := of_decide_eq_true (by first | (with_reducible assumption) | assumption)
    have q111 : x3_1 < (l0.length : Int) := of_decide_eq_true (by first | (with_reducible assumption) | assumption)
    obtain ⟨ad111, A111_2, c111_2, e111, hx111_0, hx111_1, hx111_2, hl111_2, hi111_2⟩ := at_T43 HR0.out x3_1 p111 q111
    cases e111
    replace hx111_0 := (HB.out.cell (World.block_lt_of_cell? w _ hx111_0)).trans hx111_0; replace hx111_1 := (HB.out.cell (World.block_lt_of_cell? w _ hx111_1)).trans hx111_1; replace hx111_2 := (HB.out.cell (World.block_lt_of_cell? w _ hx111_2)).trans hx111_2; have HR111_2 := Aside0.mk hi111_2; have HC111_2 := Aside0.mk hl111_2; clear hi111_2 hl111_2; replace p111 := eq_true p111; replace q111 := eq_true q111
    go_wp2_with (first | ((with_reducible refine gate_callee (f := 50) rfl ?_); refine goesL_ (some 16) rfl rfl Try.func50 (by kernel_rfl) rfl #[.agg #[.bool ((rd_T43 l0 x3_1).f0), .bool ((rd_T43 l0 x3_1).f1), .slice A111_2 ((rd_T43 l0 x3_1).f2).length c111_2], .int .i64 (l0.length : Int)] rfl (by (try simp only [List.map_toArray, List.map_cons, List.map_nil]); first | done | rfl | (simp only [List.length_drop, List.length_take]; rfl)) ?_; (with_reducible refine (spec_l7Sub.calls k1 ((rd_T43 l0 x3_1).f0) ((rd_T43 l0 x3_1).f1) _ _ ((rd_T43 l0 x3_1).f2) (l0.length : Int) false _ ?side1 ?side2 A4.out).mono ?_); (case side1 => repeat (first | exact (Kd.C_below HR111_2.out HB.out) | (with_reducible refine Kd.C_alloc ?_ _) | (with_reducible refine Kd.C_drewN ?_ _) | (with_reducible refine Kd.C_drew ?_))); (case side2 => exact HC111_2.out); rintro e w7 ⟨rfl, hb⟩; refine ⟨_, rfl, ?_⟩; replace HB := Aside0.mk (below_step belowNow hb); (try clear hb); (try clear hb2); (try clear hk); (try clear hi)))
    go_ret
    exact ⟨by first | rfl | (simp [errW_none, errW_some] <;> rfl) | (simp [*, errW_none, errW_some] <;> rfl), belowNow⟩
   subst c5
   have H1 : (spec_SubsOk.l0 k1 l0 (wrap64 (x3_1 + 1))) = some r := by rw [if_pos rfl] at H; exact H
   clear H; have H := H1; clear H1
   have H' := Aside0.mk H
   clear H
   have p111 : 0 ≤ (x3_1 : Int) := of_decide_eq_true (by first | (with_reducible assumption) | assumption)
   have q111 : x3_1 < (l0.length : Int) := of_decide_eq_true (by first | (with_reducible assumption) | assumption)
   obtain ⟨ad111, A111_2, c111_2, e111, hx111_0, hx111_1, hx111_2, hl111_2, hi111_2⟩ := at_T43 HR0.out x3_1 p111 q111
   cases e111
   replace hx111_0 := (HB.out.cell (World.block_lt_of_cell? w _ hx111_0)).trans hx111_0; replace hx111_1 := (HB.out.cell (World.block_lt_of_cell? w _ hx111_1)).trans hx111_1; replace hx111_2 := (HB.out.cell (World.block_lt_of_cell? w _ hx111_2)).trans hx111_2; have HR111_2 := Aside0.mk hi111_2; have HC111_2 := Aside0.mk hl111_2; clear hi111_2 hl111_2; replace p111 := eq_true p111; replace q111 := eq_true q111
   go_wp2_with (first | ((with_reducible refine gate_callee (f := 50) rfl ?_); refine goesL_ (some 16) rfl rfl Try.func50 (by kernel_rfl) rfl #[.agg #[.bool ((rd_T43 l0 x3_1).f0), .bool ((rd_T43 l0 x3_1).f1), .slice A111_2 ((rd_T43 l0 x3_1).f2).length c111_2], .int .i64 (l0.length : Int)] rfl (by (try simp only [List.map_toArray, List.map_cons, List.map_nil]); first | done | rfl | (simp only [List.length_drop, List.length_take]; rfl)) ?_; (with_reducible refine (spec_l7Sub.calls k1 ((rd_T43 l0 x3_1).f0) ((rd_T43 l0 x3_1).f1) _ _ ((rd_T43 l0 x3_1).f2) (l0.length : Int) true _ ?side1 ?side2 A4.out).mono ?_); (case side1 => repeat (first | exact (Kd.C_below HR111_2.out HB.out) | (with_reducible refine Kd.C_alloc ?_ _) | (with_reducible refine Kd.C_drewN ?_ _) | (with_reducible refine Kd.C_drew ?_))); (case side2 => exact HC111_2.out); rintro e w6 ⟨rfl, hb⟩; refine ⟨_, rfl, ?_⟩; replace HB := Aside0.mk (below_step belowNow hb); (try clear hb); (try clear hb2); (try clear hk); (try clear hi)))
   go_roundg k1
   case measure => have := HK1.out; omega
   case rel => exact ⟨(wrap64 (x3_1 + 1)), (by first | rfl | (simp; done) | (simp [*]; done)), H', ⟨by have := HK1.out; omega⟩, ⟨belowNow⟩⟩
end Go.Proofs.Ytkcmdfeiaafdjaa.PFnHops
