-- laid by a program of this session (wip/lay/lay.py); Lean checks it
import Derived.Test.YtodehmbgcncnhaaVFnReservedShort
import Derived.Test.YtodehmbgcncnhaaPFnReservedx0
import Derived.Test.YtodehmbgcncnhaaPFnReservedx2
namespace Go.Proofs.Ytodehmbgcncnhaa.PFnReserved
-- squashed
open Go.RowKit Go.Proofs.YtodehmbgcncnhaaW.PrintWords Go.Proofs.YtodehmbgcncnhaaW.PrintLast Go.Proofs.YtodehmbgcncnhaaW.PrintMore Go.Proofs.Ytodehmbgcncnhaa.Short
attribute [local go_sem] max2_int min2_int max_two min_two max_three min_three max_four min_four   -- for this text's walks alone
set_option linter.unusedVariables false
set_option linter.unusedSimpArgs false

/-! ### impl_tariffAt: function 42 -/
mutual
def impl_tariffAt.l0 : Nat → List (S60) → Int → Int → Int → Int → List (S60) → Int → Int → Option (Int)
 | 0, _, _, _, _, _, _, _, _ => none
 | k + 1, x0, x1, x2, x7, x8, x11, x12, x13 => if x13 < x12 then (if 0 ≤ x13 then (if x13 < (x11.length : Int) then (if ((rd_T60 x11 x13).f0) = x1 then (if x8 < 0 then (impl_tariffAt.j1 k x0 x1 x2 x7 x8 x13 x11 x12 x13 true ((rd_T60 x11 x13).f0) ((rd_T60 x11 x13).f1) ((rd_T60 x11 x13).f2) ((rd_T60 x11 x13).f3) ((rd_T60 x11 x13).f4)) else (if 0 ≤ x8 then (if x8 < (x0.length : Int) then (impl_tariffAt.j1 k x0 x1 x2 x7 x8 x13 x11 x12 x13 (decide (((rd_T60 x11 x13).f1) > ((rd_T60 x0 x8).f1))) ((rd_T60 x11 x13).f0) ((rd_T60 x11 x13).f1) ((rd_T60 x11 x13).f2) ((rd_T60 x11 x13).f3) ((rd_T60 x11 x13).f4)) else (none)) else (none))) else (impl_tariffAt.l0 k x0 x1 x2 x7 x8 x11 x12 (wrap64 (x13 + 1)))) else (none)) else (none)) else (if x7 < 0 then (some x8) else (some x7))
def impl_tariffAt.j1 : Nat → List (S60) → Int → Int → Int → Int → Int → List (S60) → Int → Int → Bool → Int → Int → Int → Int → Int → Option (Int)
 | 0, _, _, _, _, _, _, _, _, _, _, _, _, _, _, _ => none
 | k + 1, x0, x1, x2, x7, x8, x9, x11, x12, x13, x33, x111000, x111001, x111002, x111003, x111004 => if x33 = true then (if x111001 ≤ (Int.tmod x2 86400) then (if x7 < 0 then (impl_tariffAt.l0 k x0 x1 x2 x9 x9 x11 x12 (wrap64 (x13 + 1))) else (if 0 ≤ x7 then (if x7 < (x0.length : Int) then (if x111001 > ((rd_T60 x0 x7).f1) then (impl_tariffAt.l0 k x0 x1 x2 x9 x9 x11 x12 (wrap64 (x13 + 1))) else (impl_tariffAt.l0 k x0 x1 x2 x7 x9 x11 x12 (wrap64 (x13 + 1)))) else (none)) else (none))) else (impl_tariffAt.l0 k x0 x1 x2 x7 x9 x11 x12 (wrap64 (x13 + 1)))) else (if x111001 ≤ (Int.tmod x2 86400) then (if x7 < 0 then (impl_tariffAt.l0 k x0 x1 x2 x9 x8 x11 x12 (wrap64 (x13 + 1))) else (if 0 ≤ x7 then (if x7 < (x0.length : Int) then (if x111001 > ((rd_T60 x0 x7).f1) then (impl_tariffAt.l0 k x0 x1 x2 x9 x8 x11 x12 (wrap64 (x13 + 1))) else (impl_tariffAt.l0 k x0 x1 x2 x7 x8 x11 x12 (wrap64 (x13 + 1)))) else (none)) else (none))) else (impl_tariffAt.l0 k x0 x1 x2 x7 x8 x11 x12 (wrap64 (x13 + 1))))
end
def impl_tariffAt.f (k : Nat) (l0 : List (S60)) (a1 : Int) (a2 : Int) : Option (Int) := impl_tariffAt.l0 k l0 a1 a2 (-1) (-1) l0 (l0.length : Int) 0
theorem impl_tariffAt.mono_l : ∀ k, (∀ y0 y1 y2 y3 y4 y5 y6 y7, LeO (impl_tariffAt.l0 k y0 y1 y2 y3 y4 y5 y6 y7) (impl_tariffAt.l0 (k + 1) y0 y1 y2 y3 y4 y5 y6 y7)) ∧ (∀ y0 y1 y2 y3 y4 y5 y6 y7 y8 y9 y10 y11 y12 y13 y14, LeO (impl_tariffAt.j1 k y0 y1 y2 y3 y4 y5 y6 y7 y8 y9 y10 y11 y12 y13 y14) (impl_tariffAt.j1 (k + 1) y0 y1 y2 y3 y4 y5 y6 y7 y8 y9 y10 y11 y12 y13 y14))
 | 0 => ⟨fun _ _ _ _ _ _ _ _ r h => by simp [impl_tariffAt.l0] at h, fun _ _ _ _ _ _ _ _ _ _ _ _ _ _ _ r h => by simp [impl_tariffAt.j1] at h⟩
 | k + 1 => by
  obtain ⟨ih0, ih1⟩ := impl_tariffAt.mono_l k
  refine ⟨?_, ?_⟩
  ·intro y0 y1 y2 y3 y4 y5 y6 y7
   unfold impl_tariffAt.l0
   repeat' first
   | (with_reducible exact ih0 _ _ _ _ _ _ _ _)
   | (with_reducible exact ih1 _ _ _ _ _ _ _ _ _ _ _ _ _ _ _)
   | (with_reducible exact LeO.refl _)
   | (with_reducible exact LeO.none _)
   | (with_reducible refine LeO.ite ?_ ?_)
   | (with_reducible refine LeO.bind ?_ (fun _ => ?_))
   | exact ih0 _ _ _ _ _ _ _ _
   | exact ih1 _ _ _ _ _ _ _ _ _ _ _ _ _ _ _
   | exact LeO.none _
   | refine LeO.ite ?_ ?_
   | refine LeO.bind ?_ (fun _ => ?_)
  ·intro y0 y1 y2 y3 y4 y5 y6 y7 y8 y9 y10 y11 y12 y13 y14
   unfold impl_tariffAt.j1
   repeat' first
   | (with_reducible exact ih0 _ _ _ _ _ _ _ _)
   | (with_reducible exact ih1 _ _ _ _ _ _ _ _ _ _ _ _ _ _ _)
   | (with_reducible exact LeO.refl _)
   | (with_reducible exact LeO.none _)
   | (with_reducible refine LeO.ite ?_ ?_)
   | (with_reducible refine LeO.bind ?_ (fun _ => ?_))
   | exact ih0 _ _ _ _ _ _ _ _
   | exact ih1 _ _ _ _ _ _ _ _ _ _ _ _ _ _ _
   | exact LeO.none _
   | refine LeO.ite ?_ ?_
   | refine LeO.bind ?_ (fun _ => ?_)
theorem impl_tariffAt.mono : ∀ a0 a1 a2 k, LeO (impl_tariffAt.f k a0 a1 a2) (impl_tariffAt.f (k + 1) a0 a1 a2) := by
 intro a0 a1 a2 k
 obtain ⟨ih0, ih1⟩ := impl_tariffAt.mono_l k
 unfold impl_tariffAt.f
 repeat' first
   | (with_reducible exact ih0 _ _ _ _ _ _ _ _)
   | (with_reducible exact ih1 _ _ _ _ _ _ _ _ _ _ _ _ _ _ _)
   | (with_reducible exact LeO.refl _)
   | (with_reducible exact LeO.none _)
   | (with_reducible refine LeO.ite ?_ ?_)
   | (with_reducible refine LeO.bind ?_ (fun _ => ?_))
   | exact ih0 _ _ _ _ _ _ _ _
   | exact ih1 _ _ _ _ _ _ _ _ _ _ _ _ _ _ _
   | exact LeO.none _
   | refine LeO.ite ?_ ?_
   | refine LeO.bind ?_ (fun _ => ?_)
set_option maxHeartbeats 8000000 in
set_option maxRecDepth 100000 in
theorem impl_tariffAt.calls (k : Nat) (A0 : Option Addr) (c0 : Nat) (l0 : List (S60)) (a1 : Int) (a2 : Int) (r : Int) (w : World) (hr0 : Kd.C k60 w A0 l0.length l0) (hc0 : l0.length ≤ c0) (h : impl_tariffAt.f k l0 a1 a2 = some r) :
  Calls Try.prog 42 #[.slice A0 l0.length c0, .int .i64 a1, .int .i64 a2] w fun e w' => e = .returned (.int .i64 r) ∧ Below w.heap.size w w' := by
 have hu60 := Try.underlying60
 have HR0 := Aside0.mk hr0
 have HC0 := Aside0.mk hc0
 clear hr0 hc0
 have HB := Aside0.mk (Below.refl w.heap.size w)
 have H : (impl_tariffAt.l0 k l0 a1 a2 (-1) (-1) l0 (l0.length : Int) 0) = some r := h
 clear h
 have H' := Aside0.mk H
 clear H
 go_enter Try.func42, Try.ntmps42
 go_wp2
 repeat (go_quiet (fail); try go_wp2)
 go_loopg [7, 8, 13] k (fun kq v7 v8 v13 w' => ∃ (x7_1 : Int) (x8_1 : Int) (x13_1 : Int), v7 = .int .i64 x7_1 ∧ v8 = .int .i64 x8_1 ∧ v13 = .int .i64 x13_1 ∧ Aside0 (impl_tariffAt.l0 kq l0 a1 a2 x7_1 x8_1 l0 (l0.length : Int) x13_1 = some r) ∧ Aside0 (kq ≤ k) ∧ Aside0 (Below w.heap.size w w'))
 case atStart => exact ⟨((-1)), ((-1)), (0), (by first | rfl | (simp; done) | (simp [*]; done)), (by first | rfl | (simp; done) | (simp [*]; done)), (by first | rfl | (simp; done) | (simp [*]; done)), H', ⟨Nat.le_refl _⟩, ⟨belowNow⟩⟩
 case round =>
  clear H'
  try clear p2
  obtain ⟨x7_1, x8_1, x13_1, rfl, rfl, rfl, HA, HK1, HB⟩ := hrel
  cases gk with
  | zero => exact absurd HA.out (by simp [impl_tariffAt.l0])
  | succ k1 =>
   have H := HA.out
   clear HA
   simp only [impl_tariffAt.l0] at H
   by_cases c4 : x13_1 < (l0.length : Int)
   ·rw [if_pos c4] at H
    have c4b0 : decide (x13_1 < (l0.length : Int)) = true := decide_eq_true c4
    clear c4
    by_cases c5 : 0 ≤ x13_1
    ·rw [if_pos c5] at H
     have c5b0 : decide (0 ≤ x13_1) = true := decide_eq_true c5
     clear c5
     by_cases c6 : x13_1 < (l0.length : Int)
     ·rw [if_pos c6] at H
      have c6b0 : decide (x13_1 < (l0.length : Int)) = true := decide_eq_true c6
      clear c6
      by_cases c7 : ((rd_T60 l0 x13_1).f0) = a1
      ·rw [if_pos c7] at H
       have c7b0 : (((rd_T60 l0 x13_1).f0) == a1) = true := beq_iff_eq.mpr c7
       have c7b1 : (((rd_T60 l0 x13_1).f0) != a1) = false := bne_eq_false_iff_eq.mpr c7
       clear c7
       have HC8 := Aside0.mk H
       clear H
       have p109 : 0 ≤ (x13_1 : Int) := of_decide_eq_true (by first | (with_reducible assumption) | assumption)
       have q109 : x13_1 < (l0.length : Int) := of_decide_eq_true (by first | (with_reducible assumption) | assumption)
       obtain ⟨ad109, e109, hx109_0, hx109_1, hx109_2, hx109_3, hx109_4⟩ := at_T60 HR0.out x13_1 p109 q109
       cases e109
       replace hx109_0 := (HB.out.cell (World.block_lt_of_cell? w _ hx109_0)).trans hx109_0
       replace hx109_1 := (HB.out.cell (World.block_lt_of_cell? w _ hx109_1)).trans hx109_1
       replace hx109_2 := (HB.out.cell (World.block_lt_of_cell? w _ hx109_2)).trans hx109_2
       replace hx109_3 := (HB.out.cell (World.block_lt_of_cell? w _ hx109_3)).trans hx109_3
       replace hx109_4 := (HB.out.cell (World.block_lt_of_cell? w _ hx109_4)).trans hx109_4
       replace p109 := eq_true p109
       replace q109 := eq_true q109
       go_upto_region 6 with (first | ((with_reducible refine gate_dst (N := 10) rfl ?_); refine box_event ?hg (N := 10) ?hd (cs := #[.int .i64 0, .int .i64 0, .int .i64 0, .int .i64 0, .int .i64 0]) (t := 60) ?hr ?_; (case hd => rfl); (case hg => rfl); (case hr => first | (go_simp; done) | (go_simp; rfl)); intro gb110 hg w9 hbox hb; have n0_ := Aside0.mk (below_step belowNow hb); have n1_ := Aside0.mk (hbox); have n2_ := Aside0.mk ((by rw [hg]; exact (below_size belowNow) : w.heap.size ≤ gb110)); have n3_ := n2_; clear HB; have HB := n0_; have BK110 := n1_; have GW110 := n2_; have GE110 := n3_; clear n0_ n1_ n2_ n3_; clear hb hbox hg; have hcz10_0 : w9.cell? ⟨gb110, 0, none⟩ = some (.int .i64 0) := (blk_cell BK110.out 0).trans rfl; have hcz10_1 : w9.cell? ⟨gb110, 1, none⟩ = some (.int .i64 0) := (blk_cell BK110.out 1).trans rfl; have hcz10_2 : w9.cell? ⟨gb110, 2, none⟩ = some (.int .i64 0) := (blk_cell BK110.out 2).trans rfl; have hcz10_3 : w9.cell? ⟨gb110, 3, none⟩ = some (.int .i64 0) := (blk_cell BK110.out 3).trans rfl; have hcz10_4 : w9.cell? ⟨gb110, 4, none⟩ = some (.int .i64 0) := (blk_cell BK110.out 4).trans rfl; have hfz10_0 := blk_frozen BK110.out 0; have hfz10_1 := blk_frozen BK110.out 1; have hfz10_2 := blk_frozen BK110.out 2; have hfz10_3 := blk_frozen BK110.out 3; have hfz10_4 := blk_frozen BK110.out 4))
       repeat (go_quiet (first | ((with_reducible refine gate_dst (N := 10) rfl ?_); refine box_event ?hg (N := 10) ?hd (cs := #[.int .i64 0, .int .i64 0, .int .i64 0, .int .i64 0, .int .i64 0]) (t := 60) ?hr ?_; (case hd => rfl); (case hg => rfl); (case hr => first | (go_simp; done) | (go_simp; rfl)); intro gb110 hg w9 hbox hb; have n0_ := Aside0.mk (below_step belowNow hb); have n1_ := Aside0.mk (hbox); have n2_ := Aside0.mk ((by rw [hg]; exact (below_size belowNow) : w.heap.size ≤ gb110)); have n3_ := n2_; clear HB; have HB := n0_; have BK110 := n1_; have GW110 := n2_; have GE110 := n3_; clear n0_ n1_ n2_ n3_; clear hb hbox hg; have hcz10_0 : w9.cell? ⟨gb110, 0, none⟩ = some (.int .i64 0) := (blk_cell BK110.out 0).trans rfl; have hcz10_1 : w9.cell? ⟨gb110, 1, none⟩ = some (.int .i64 0) := (blk_cell BK110.out 1).trans rfl; have hcz10_2 : w9.cell? ⟨gb110, 2, none⟩ = some (.int .i64 0) := (blk_cell BK110.out 2).trans rfl; have hcz10_3 : w9.cell? ⟨gb110, 3, none⟩ = some (.int .i64 0) := (blk_cell BK110.out 3).trans rfl; have hcz10_4 : w9.cell? ⟨gb110, 4, none⟩ = some (.int .i64 0) := (blk_cell BK110.out 4).trans rfl; have hfz10_0 := blk_frozen BK110.out 0; have hfz10_1 := blk_frozen BK110.out 1; have hfz10_2 := blk_frozen BK110.out 2; have hfz10_3 := blk_frozen BK110.out 3; have hfz10_4 := blk_frozen BK110.out 4)); go_upto_region 6 with (first | ((with_reducible refine gate_dst (N := 10) rfl ?_); refine box_event ?hg (N := 10) ?hd (cs := #[.int .i64 0, .int .i64 0, .int .i64 0, .int .i64 0, .int .i64 0]) (t := 60) ?hr ?_; (case hd => rfl); (case hg => rfl); (case hr => first | (go_simp; done) | (go_simp; rfl)); intro gb110 hg w9 hbox hb; have n0_ := Aside0.mk (below_step belowNow hb); have n1_ := Aside0.mk (hbox); have n2_ := Aside0.mk ((by rw [hg]; exact (below_size belowNow) : w.heap.size ≤ gb110)); have n3_ := n2_; clear HB; have HB := n0_; have BK110 := n1_; have GW110 := n2_; have GE110 := n3_; clear n0_ n1_ n2_ n3_; clear hb hbox hg; have hcz10_0 : w9.cell? ⟨gb110, 0, none⟩ = some (.int .i64 0) := (blk_cell BK110.out 0).trans rfl; have hcz10_1 : w9.cell? ⟨gb110, 1, none⟩ = some (.int .i64 0) := (blk_cell BK110.out 1).trans rfl; have hcz10_2 : w9.cell? ⟨gb110, 2, none⟩ = some (.int .i64 0) := (blk_cell BK110.out 2).trans rfl; have hcz10_3 : w9.cell? ⟨gb110, 3, none⟩ = some (.int .i64 0) := (blk_cell BK110.out 3).trans rfl; have hcz10_4 : w9.cell? ⟨gb110, 4, none⟩ = some (.int .i64 0) := (blk_cell BK110.out 4).trans rfl; have hfz10_0 := blk_frozen BK110.out 0; have hfz10_1 := blk_frozen BK110.out 1; have hfz10_2 := blk_frozen BK110.out 2; have hfz10_3 := blk_frozen BK110.out 3; have hfz10_4 := blk_frozen BK110.out 4)))
       (try simp only [Act.put, List.setIfInBounds_toArray, List.set_cons_zero, List.set_cons_succ])
       go_cut [33] (fun v33 wc => ∃ (kq : Nat) (x33_7 : Bool), v33 = .bool x33_7 ∧ Aside0 (impl_tariffAt.j1 kq l0 a1 a2 x7_1 x8_1 x13_1 l0 (l0.length : Int) x13_1 x33_7 ((rd_T60 l0 x13_1).f0) ((rd_T60 l0 x13_1).f1) ((rd_T60 l0 x13_1).f2) ((rd_T60 l0 x13_1).f3) ((rd_T60 l0 x13_1).f4) = some r) ∧ Aside0 (kq ≤ k1) ∧ Aside0 (wc.heap[gb110]? = some (.cells #[.int .i64 ((rd_T60 l0 x13_1).f0), .int .i64 ((rd_T60 l0 x13_1).f1), .int .i64 ((rd_T60 l0 x13_1).f2), .int .i64 ((rd_T60 l0 x13_1).f3), .int .i64 ((rd_T60 l0 x13_1).f4)] 60 (0, 0))) ∧ Aside0 (Below w.heap.size w wc))
       case first =>
        have H := HC8.out
        clear HC8
        by_cases c11 : x8_1 < 0
        ·rw [if_pos c11] at H
         have c11b0 : decide (x8_1 < 0) = true := decide_eq_true c11
         clear c11
         (first | rw [c11b0] | (simp only [i64_w, i32_w]; rw [c11b0]) | (rw [c11b2]; try simp only [Bool.not_false, Bool.not_true]) | skip)
         have H' := Aside0.mk H
         clear H
         go_wp2
         repeat (go_quiet (fail); try go_wp2)
         go_meet
         case rel => exact ⟨_, (true), (by first | rfl | (simp; done) | (simp [*]; done)), H', ⟨by have := HK1.out; first | omega | exact Nat.le_refl _⟩, ⟨by (with_reducible repeat (first | refine blk_drewN ?_ _ | refine blk_drew ?_ | refine blk_alloc ?_ _)); refine blk_put (cs := #[.int .i64 ((rd_T60 l0 x13_1).f0), .int .i64 ((rd_T60 l0 x13_1).f1), .int .i64 ((rd_T60 l0 x13_1).f2), .int .i64 ((rd_T60 l0 x13_1).f3), .int .i64 0]) ?_ 4 _ rfl; (with_reducible repeat (first | refine blk_drewN ?_ _ | refine blk_drew ?_ | refine blk_alloc ?_ _)); refine blk_put (cs := #[.int .i64 ((rd_T60 l0 x13_1).f0), .int .i64 ((rd_T60 l0 x13_1).f1), .int .i64 ((rd_T60 l0 x13_1).f2), .int .i64 0, .int .i64 0]) ?_ 3 _ rfl; (with_reducible repeat (first | refine blk_drewN ?_ _ | refine blk_drew ?_ | refine blk_alloc ?_ _)); refine blk_put (cs := #[.int .i64 ((rd_T60 l0 x13_1).f0), .int .i64 ((rd_T60 l0 x13_1).f1), .int .i64 0, .int .i64 0, .int .i64 0]) ?_ 2 _ rfl; (with_reducible repeat (first | refine blk_drewN ?_ _ | refine blk_drew ?_ | refine blk_alloc ?_ _)); refine blk_put (cs := #[.int .i64 ((rd_T60 l0 x13_1).f0), .int .i64 0, .int .i64 0, .int .i64 0, .int .i64 0]) ?_ 1 _ rfl; (with_reducible repeat (first | refine blk_drewN ?_ _ | refine blk_drew ?_ | refine blk_alloc ?_ _)); refine blk_put (cs := #[.int .i64 0, .int .i64 0, .int .i64 0, .int .i64 0, .int .i64 0]) ?_ 0 _ rfl; (with_reducible repeat (first | refine blk_drewN ?_ _ | refine blk_drew ?_ | refine blk_alloc ?_ _)); exact BK110.out⟩, ⟨belowNow⟩⟩
        ·rw [if_neg c11] at H
         have c11b0 : decide (x8_1 < 0) = false := decide_eq_false c11
         clear c11
         (first | rw [c11b0] | (simp only [i64_w, i32_w]; rw [c11b0]) | (rw [c11b2]; try simp only [Bool.not_false, Bool.not_true]) | skip)
         by_cases c12 : 0 ≤ x8_1
         ·rw [if_pos c12] at H
          have c12b0 : decide (0 ≤ x8_1) = true := decide_eq_true c12
          clear c12
          by_cases c13 : x8_1 < (l0.length : Int)
          ·rw [if_pos c13] at H
           have c13b0 : decide (x8_1 < (l0.length : Int)) = true := decide_eq_true c13
           clear c13
           have H' := Aside0.mk H
           clear H
           have hcz14_0 : w9.cell? ⟨gb110, 0, none⟩ = some (.int .i64 0) := (blk_cell BK110.out 0).trans rfl
           have hcz14_1 : w9.cell? ⟨gb110, 1, none⟩ = some (.int .i64 0) := (blk_cell BK110.out 1).trans rfl
           have hcz14_2 : w9.cell? ⟨gb110, 2, none⟩ = some (.int .i64 0) := (blk_cell BK110.out 2).trans rfl
           have hcz14_3 : w9.cell? ⟨gb110, 3, none⟩ = some (.int .i64 0) := (blk_cell BK110.out 3).trans rfl
           have hcz14_4 : w9.cell? ⟨gb110, 4, none⟩ = some (.int .i64 0) := (blk_cell BK110.out 4).trans rfl
           have hfz14_0 := blk_frozen BK110.out 0
           have hfz14_1 := blk_frozen BK110.out 1
           have hfz14_2 := blk_frozen BK110.out 2
           have hfz14_3 := blk_frozen BK110.out 3
           have hfz14_4 := blk_frozen BK110.out 4
           have p111 : 0 ≤ (x8_1 : Int) := of_decide_eq_true (by first | (with_reducible assumption) | assumption)
           have q111 : x8_1 < (l0.length : Int) := of_decide_eq_true (by first | (with_reducible assumption) | assumption)
           obtain ⟨ad111, e111, hx111_0, hx111_1, hx111_2, hx111_3, hx111_4⟩ := at_T60 HR0.out x8_1 p111 q111
           obtain rfl : ad109 = ad111 := (by injection e111)
           have hn111_0 : ad109.block ≠ gb110 := Nat.ne_of_lt (Nat.lt_of_lt_of_le (by have := World.block_lt_of_cell? _ _ hx111_0; first | rwa [add_block] at this | exact this) GW110.out)
           have hn111_1 : ad109.block ≠ gb110 := Nat.ne_of_lt (Nat.lt_of_lt_of_le (by have := World.block_lt_of_cell? _ _ hx111_0; first | rwa [add_block] at this | exact this) GW110.out)
           have hn111_2 : ad109.block ≠ gb110 := Nat.ne_of_lt (Nat.lt_of_lt_of_le (by have := World.block_lt_of_cell? _ _ hx111_0; first | rwa [add_block] at this | exact this) GW110.out)
           have hn111_3 : ad109.block ≠ gb110 := Nat.ne_of_lt (Nat.lt_of_lt_of_le (by have := World.block_lt_of_cell? _ _ hx111_0; first | rwa [add_block] at this | exact this) GW110.out)
           have hn111_4 : ad109.block ≠ gb110 := Nat.ne_of_lt (Nat.lt_of_lt_of_le (by have := World.block_lt_of_cell? _ _ hx111_0; first | rwa [add_block] at this | exact this) GW110.out)
           replace hx111_0 := (HB.out.cell (World.block_lt_of_cell? w _ hx111_0)).trans hx111_0
           replace hx111_1 := (HB.out.cell (World.block_lt_of_cell? w _ hx111_1)).trans hx111_1
           replace hx111_2 := (HB.out.cell (World.block_lt_of_cell? w _ hx111_2)).trans hx111_2
           replace hx111_3 := (HB.out.cell (World.block_lt_of_cell? w _ hx111_3)).trans hx111_3
           replace hx111_4 := (HB.out.cell (World.block_lt_of_cell? w _ hx111_4)).trans hx111_4
           replace hx111_0 := (cell_far (p := ⟨gb110, 0, none⟩) (by first | (rw [add_block]; exact hn111_0) | (show (Addr.add _ _).block ≠ _; rw [add_block]; exact hn111_0) | exact hn111_0) (.int .i64 ((rd_T60 l0 x13_1).f0))).trans hx111_0
           replace hx111_1 := (cell_far (p := ⟨gb110, 0, none⟩) (by first | (rw [add_block]; exact hn111_0) | (show (Addr.add _ _).block ≠ _; rw [add_block]; exact hn111_0) | exact hn111_0) (.int .i64 ((rd_T60 l0 x13_1).f0))).trans hx111_1
           replace hx111_2 := (cell_far (p := ⟨gb110, 0, none⟩) (by first | (rw [add_block]; exact hn111_0) | (show (Addr.add _ _).block ≠ _; rw [add_block]; exact hn111_0) | exact hn111_0) (.int .i64 ((rd_T60 l0 x13_1).f0))).trans hx111_2
           replace hx111_3 := (cell_far (p := ⟨gb110, 0, none⟩) (by first | (rw [add_block]; exact hn111_0) | (show (Addr.add _ _).block ≠ _; rw [add_block]; exact hn111_0) | exact hn111_0) (.int .i64 ((rd_T60 l0 x13_1).f0))).trans hx111_3
           replace hx111_4 := (cell_far (p := ⟨gb110, 0, none⟩) (by first | (rw [add_block]; exact hn111_0) | (show (Addr.add _ _).block ≠ _; rw [add_block]; exact hn111_0) | exact hn111_0) (.int .i64 ((rd_T60 l0 x13_1).f0))).trans hx111_4
           replace hx111_0 := (cell_far (p := ⟨gb110, 1, none⟩) (by first | (rw [add_block]; exact hn111_1) | (show (Addr.add _ _).block ≠ _; rw [add_block]; exact hn111_1) | exact hn111_1) (.int .i64 ((rd_T60 l0 x13_1).f1))).trans hx111_0
           replace hx111_1 := (cell_far (p := ⟨gb110, 1, none⟩) (by first | (rw [add_block]; exact hn111_1) | (show (Addr.add _ _).block ≠ _; rw [add_block]; exact hn111_1) | exact hn111_1) (.int .i64 ((rd_T60 l0 x13_1).f1))).trans hx111_1
           replace hx111_2 := (cell_far (p := ⟨gb110, 1, none⟩) (by first | (rw [add_block]; exact hn111_1) | (show (Addr.add _ _).block ≠ _; rw [add_block]; exact hn111_1) | exact hn111_1) (.int .i64 ((rd_T60 l0 x13_1).f1))).trans hx111_2
           replace hx111_3 := (cell_far (p := ⟨gb110, 1, none⟩) (by first | (rw [add_block]; exact hn111_1) | (show (Addr.add _ _).block ≠ _; rw [add_block]; exact hn111_1) | exact hn111_1) (.int .i64 ((rd_T60 l0 x13_1).f1))).trans hx111_3
           replace hx111_4 := (cell_far (p := ⟨gb110, 1, none⟩) (by first | (rw [add_block]; exact hn111_1) | (show (Addr.add _ _).block ≠ _; rw [add_block]; exact hn111_1) | exact hn111_1) (.int .i64 ((rd_T60 l0 x13_1).f1))).trans hx111_4
           replace hx111_0 := (cell_far (p := ⟨gb110, 2, none⟩) (by first | (rw [add_block]; exact hn111_2) | (show (Addr.add _ _).block ≠ _; rw [add_block]; exact hn111_2) | exact hn111_2) (.int .i64 ((rd_T60 l0 x13_1).f2))).trans hx111_0
           replace hx111_1 := (cell_far (p := ⟨gb110, 2, none⟩) (by first | (rw [add_block]; exact hn111_2) | (show (Addr.add _ _).block ≠ _; rw [add_block]; exact hn111_2) | exact hn111_2) (.int .i64 ((rd_T60 l0 x13_1).f2))).trans hx111_1
           replace hx111_2 := (cell_far (p := ⟨gb110, 2, none⟩) (by first | (rw [add_block]; exact hn111_2) | (show (Addr.add _ _).block ≠ _; rw [add_block]; exact hn111_2) | exact hn111_2) (.int .i64 ((rd_T60 l0 x13_1).f2))).trans hx111_2
           replace hx111_3 := (cell_far (p := ⟨gb110, 2, none⟩) (by first | (rw [add_block]; exact hn111_2) | (show (Addr.add _ _).block ≠ _; rw [add_block]; exact hn111_2) | exact hn111_2) (.int .i64 ((rd_T60 l0 x13_1).f2))).trans hx111_3
           replace hx111_4 := (cell_far (p := ⟨gb110, 2, none⟩) (by first | (rw [add_block]; exact hn111_2) | (show (Addr.add _ _).block ≠ _; rw [add_block]; exact hn111_2) | exact hn111_2) (.int .i64 ((rd_T60 l0 x13_1).f2))).trans hx111_4
           replace hx111_0 := (cell_far (p := ⟨gb110, 3, none⟩) (by first | (rw [add_block]; exact hn111_3) | (show (Addr.add _ _).block ≠ _; rw [add_block]; exact hn111_3) | exact hn111_3) (.int .i64 ((rd_T60 l0 x13_1).f3))).trans hx111_0
           replace hx111_1 := (cell_far (p := ⟨gb110, 3, none⟩) (by first | (rw [add_block]; exact hn111_3) | (show (Addr.add _ _).block ≠ _; rw [add_block]; exact hn111_3) | exact hn111_3) (.int .i64 ((rd_T60 l0 x13_1).f3))).trans hx111_1
           replace hx111_2 := (cell_far (p := ⟨gb110, 3, none⟩) (by first | (rw [add_block]; exact hn111_3) | (show (Addr.add _ _).block ≠ _; rw [add_block]; exact hn111_3) | exact hn111_3) (.int .i64 ((rd_T60 l0 x13_1).f3))).trans hx111_2
           replace hx111_3 := (cell_far (p := ⟨gb110, 3, none⟩) (by first | (rw [add_block]; exact hn111_3) | (show (Addr.add _ _).block ≠ _; rw [add_block]; exact hn111_3) | exact hn111_3) (.int .i64 ((rd_T60 l0 x13_1).f3))).trans hx111_3
           replace hx111_4 := (cell_far (p := ⟨gb110, 3, none⟩) (by first | (rw [add_block]; exact hn111_3) | (show (Addr.add _ _).block ≠ _; rw [add_block]; exact hn111_3) | exact hn111_3) (.int .i64 ((rd_T60 l0 x13_1).f3))).trans hx111_4
           replace hx111_0 := (cell_far (p := ⟨gb110, 4, none⟩) (by first | (rw [add_block]; exact hn111_4) | (show (Addr.add _ _).block ≠ _; rw [add_block]; exact hn111_4) | exact hn111_4) (.int .i64 ((rd_T60 l0 x13_1).f4))).trans hx111_0
           replace hx111_1 := (cell_far (p := ⟨gb110, 4, none⟩) (by first | (rw [add_block]; exact hn111_4) | (show (Addr.add _ _).block ≠ _; rw [add_block]; exact hn111_4) | exact hn111_4) (.int .i64 ((rd_T60 l0 x13_1).f4))).trans hx111_1
           replace hx111_2 := (cell_far (p := ⟨gb110, 4, none⟩) (by first | (rw [add_block]; exact hn111_4) | (show (Addr.add _ _).block ≠ _; rw [add_block]; exact hn111_4) | exact hn111_4) (.int .i64 ((rd_T60 l0 x13_1).f4))).trans hx111_2
           replace hx111_3 := (cell_far (p := ⟨gb110, 4, none⟩) (by first | (rw [add_block]; exact hn111_4) | (show (Addr.add _ _).block ≠ _; rw [add_block]; exact hn111_4) | exact hn111_4) (.int .i64 ((rd_T60 l0 x13_1).f4))).trans hx111_3
           replace hx111_4 := (cell_far (p := ⟨gb110, 4, none⟩) (by first | (rw [add_block]; exact hn111_4) | (show (Addr.add _ _).block ≠ _; rw [add_block]; exact hn111_4) | exact hn111_4) (.int .i64 ((rd_T60 l0 x13_1).f4))).trans hx111_4
           (try have hy111_0 := fun (n_ : Nat) => (show (((((((w9.drewN n_).setCell ⟨gb110, 0, none⟩ (.int .i64 ((rd_T60 l0 x13_1).f0))).setCell ⟨gb110, 1, none⟩ (.int .i64 ((rd_T60 l0 x13_1).f1))).setCell ⟨gb110, 2, none⟩ (.int .i64 ((rd_T60 l0 x13_1).f2))).setCell ⟨gb110, 3, none⟩ (.int .i64 ((rd_T60 l0 x13_1).f3))).setCell ⟨gb110, 4, none⟩ (.int .i64 ((rd_T60 l0 x13_1).f4)))).cell? _ = some _ from hx111_0))
           (try have hy111_1 := fun (n_ : Nat) => (show (((((((w9.drewN n_).setCell ⟨gb110, 0, none⟩ (.int .i64 ((rd_T60 l0 x13_1).f0))).setCell ⟨gb110, 1, none⟩ (.int .i64 ((rd_T60 l0 x13_1).f1))).setCell ⟨gb110, 2, none⟩ (.int .i64 ((rd_T60 l0 x13_1).f2))).setCell ⟨gb110, 3, none⟩ (.int .i64 ((rd_T60 l0 x13_1).f3))).setCell ⟨gb110, 4, none⟩ (.int .i64 ((rd_T60 l0 x13_1).f4)))).cell? _ = some _ from hx111_1))
           (try have hy111_2 := fun (n_ : Nat) => (show (((((((w9.drewN n_).setCell ⟨gb110, 0, none⟩ (.int .i64 ((rd_T60 l0 x13_1).f0))).setCell ⟨gb110, 1, none⟩ (.int .i64 ((rd_T60 l0 x13_1).f1))).setCell ⟨gb110, 2, none⟩ (.int .i64 ((rd_T60 l0 x13_1).f2))).setCell ⟨gb110, 3, none⟩ (.int .i64 ((rd_T60 l0 x13_1).f3))).setCell ⟨gb110, 4, none⟩ (.int .i64 ((rd_T60 l0 x13_1).f4)))).cell? _ = some _ from hx111_2))
           (try have hy111_3 := fun (n_ : Nat) => (show (((((((w9.drewN n_).setCell ⟨gb110, 0, none⟩ (.int .i64 ((rd_T60 l0 x13_1).f0))).setCell ⟨gb110, 1, none⟩ (.int .i64 ((rd_T60 l0 x13_1).f1))).setCell ⟨gb110, 2, none⟩ (.int .i64 ((rd_T60 l0 x13_1).f2))).setCell ⟨gb110, 3, none⟩ (.int .i64 ((rd_T60 l0 x13_1).f3))).setCell ⟨gb110, 4, none⟩ (.int .i64 ((rd_T60 l0 x13_1).f4)))).cell? _ = some _ from hx111_3))
           (try have hy111_4 := fun (n_ : Nat) => (show (((((((w9.drewN n_).setCell ⟨gb110, 0, none⟩ (.int .i64 ((rd_T60 l0 x13_1).f0))).setCell ⟨gb110, 1, none⟩ (.int .i64 ((rd_T60 l0 x13_1).f1))).setCell ⟨gb110, 2, none⟩ (.int .i64 ((rd_T60 l0 x13_1).f2))).setCell ⟨gb110, 3, none⟩ (.int .i64 ((rd_T60 l0 x13_1).f3))).setCell ⟨gb110, 4, none⟩ (.int .i64 ((rd_T60 l0 x13_1).f4)))).cell? _ = some _ from hx111_4))
           clear hn111_0
           clear hn111_1
           clear hn111_2
           clear hn111_3
           clear hn111_4
           replace p111 := eq_true p111
           replace q111 := eq_true q111
           go_wp2
           repeat (go_quiet (fail); try go_wp2)
           go_meet
           case rel => exact ⟨_, (decide (((rd_T60 l0 x13_1).f1) > ((rd_T60 l0 x8_1).f1))), (by first | rfl | (simp; done) | (simp [*]; done)), H', ⟨by have := HK1.out; first | omega | exact Nat.le_refl _⟩, ⟨by (with_reducible repeat (first | refine blk_drewN ?_ _ | refine blk_drew ?_ | refine blk_alloc ?_ _)); refine blk_put (cs := #[.int .i64 ((rd_T60 l0 x13_1).f0), .int .i64 ((rd_T60 l0 x13_1).f1), .int .i64 ((rd_T60 l0 x13_1).f2), .int .i64 ((rd_T60 l0 x13_1).f3), .int .i64 0]) ?_ 4 _ rfl; (with_reducible repeat (first | refine blk_drewN ?_ _ | refine blk_drew ?_ | refine blk_alloc ?_ _)); refine blk_put (cs := #[.int .i64 ((rd_T60 l0 x13_1).f0), .int .i64 ((rd_T60 l0 x13_1).f1), .int .i64 ((rd_T60 l0 x13_1).f2), .int .i64 0, .int .i64 0]) ?_ 3 _ rfl; (with_reducible repeat (first | refine blk_drewN ?_ _ | refine blk_drew ?_ | refine blk_alloc ?_ _)); refine blk_put (cs := #[.int .i64 ((rd_T60 l0 x13_1).f0), .int .i64 ((rd_T60 l0 x13_1).f1), .int .i64 0, .int .i64 0, .int .i64 0]) ?_ 2 _ rfl; (with_reducible repeat (first | refine blk_drewN ?_ _ | refine blk_drew ?_ | refine blk_alloc ?_ _)); refine blk_put (cs := #[.int .i64 ((rd_T60 l0 x13_1).f0), .int .i64 0, .int .i64 0, .int .i64 0, .int .i64 0]) ?_ 1 _ rfl; (with_reducible repeat (first | refine blk_drewN ?_ _ | refine blk_drew ?_ | refine blk_alloc ?_ _)); refine blk_put (cs := #[.int .i64 0, .int .i64 0, .int .i64 0, .int .i64 0, .int .i64 0]) ?_ 0 _ rfl; (with_reducible repeat (first | refine blk_drewN ?_ _ | refine blk_drew ?_ | refine blk_alloc ?_ _)); exact BK110.out⟩, ⟨belowNow⟩⟩
          ·rw [if_neg c13] at H
           exact absurd H (by simp)
         ·rw [if_neg c12] at H
          exact absurd H (by simp)
       case rest =>
        clear HC8
        try clear c1
        try clear p1
        try clear q1
        try clear hx1
        try clear p2
        try clear c4
        try clear c4b0
        try clear c5
        try clear c5b0
        try clear c6
        try clear c6b0
        try clear c7
        try clear c7b0
        try clear c7b1
        try clear p10
        try clear q10
        try clear hx10
        try clear c11
        try clear c11b0
        try clear p11
        try clear q11
        try clear hx11
        try clear c12
        try clear c12b0
        try clear c13
        try clear c13b0
        try clear hcz10_0
        try clear hcz10_1
        try clear hcz10_2
        try clear hcz10_3
        try clear hcz10_4
        try clear hcz14_0
        try clear hcz14_1
        try clear hcz14_2
        try clear hcz14_3
        try clear hcz14_4
        try clear hfz10_0
        try clear hfz10_1
        try clear hfz10_2
        try clear hfz10_3
        try clear hfz10_4
        try clear hfz14_0
        try clear hfz14_1
        try clear hfz14_2
        try clear hfz14_3
        try clear hfz14_4
        try clear hx109_0
        try clear hx109_1
        try clear hx109_2
        try clear hx109_3
        try clear hx109_4
        try clear hx111_0
        try clear hx111_1
        try clear hx111_2
        try clear hx111_3
        try clear hx111_4
        try clear p109
        try clear p111
        try clear p2
        try clear q109
        try clear q111
        obtain ⟨kq, x33_7, rfl, HA, HJ7, BK110, HB⟩ := hcut
        cases kq with
        | zero => exact absurd HA.out (by simp [impl_tariffAt.j1])
        | succ kj7 =>
         have H := HA.out
         clear HA
         simp only [impl_tariffAt.j1] at H
         by_cases c15 : x33_7 = true
         ·subst c15
          have H1 : (if ((rd_T60 l0 x13_1).f1) ≤ (Int.tmod a2 86400) then (if x7_1 < 0 then (impl_tariffAt.l0 kj7 l0 a1 a2 x13_1 x13_1 l0 (l0.length : Int) (wrap64 (x13_1 + 1))) else (if 0 ≤ x7_1 then (if x7_1 < (l0.length : Int) then (if ((rd_T60 l0 x13_1).f1) > ((rd_T60 l0 x7_1).f1) then (impl_tariffAt.l0 kj7 l0 a1 a2 x13_1 x13_1 l0 (l0.length : Int) (wrap64 (x13_1 + 1))) else (impl_tariffAt.l0 kj7 l0 a1 a2 x7_1 x13_1 l0 (l0.length : Int) (wrap64 (x13_1 + 1)))) else (none)) else (none))) else (impl_tariffAt.l0 kj7 l0 a1 a2 x7_1 x13_1 l0 (l0.length : Int) (wrap64 (x13_1 + 1)))) = some r := by rw [if_pos rfl] at H; exact H
          clear H
          have H := H1
          clear H1
          by_cases c16 : ((rd_T60 l0 x13_1).f1) ≤ (Int.tmod a2 86400)
          ·rw [if_pos c16] at H
           have c16b0 : decide (((rd_T60 l0 x13_1).f1) ≤ (Int.tmod a2 86400)) = true := decide_eq_true c16
           clear c16
           by_cases c17 : x7_1 < 0
           ·rw [if_pos c17] at H
            have c17b0 : decide (x7_1 < 0) = true := decide_eq_true c17
            clear c17
            have H' := Aside0.mk H
            clear H
            have hcz18_0 : wc.cell? ⟨gb110, 0, none⟩ = some (.int .i64 ((rd_T60 l0 x13_1).f0)) := (blk_cell BK110.out 0).trans rfl
            have hcz18_1 : wc.cell? ⟨gb110, 1, none⟩ = some (.int .i64 ((rd_T60 l0 x13_1).f1)) := (blk_cell BK110.out 1).trans rfl
            have hcz18_2 : wc.cell? ⟨gb110, 2, none⟩ = some (.int .i64 ((rd_T60 l0 x13_1).f2)) := (blk_cell BK110.out 2).trans rfl
            have hcz18_3 : wc.cell? ⟨gb110, 3, none⟩ = some (.int .i64 ((rd_T60 l0 x13_1).f3)) := (blk_cell BK110.out 3).trans rfl
            have hcz18_4 : wc.cell? ⟨gb110, 4, none⟩ = some (.int .i64 ((rd_T60 l0 x13_1).f4)) := (blk_cell BK110.out 4).trans rfl
            have hfz18_0 := blk_frozen BK110.out 0
            have hfz18_1 := blk_frozen BK110.out 1
            have hfz18_2 := blk_frozen BK110.out 2
            have hfz18_3 := blk_frozen BK110.out 3
            have hfz18_4 := blk_frozen BK110.out 4
            go_wp2
            repeat (go_quiet (fail); try go_wp2)
            go_roundg kj7
            case measure => have := HK1.out; have := HJ7.out; omega
            case rel => exact ⟨(x13_1), (x13_1), (wrap64 (x13_1 + 1)), (by first | rfl | (simp; done) | (simp [*]; done)), (by first | rfl | (simp; done) | (simp [*]; done)), (by first | rfl | (simp; done) | (simp [*]; done)), H', ⟨by have := HK1.out; have := HJ7.out; omega⟩, ⟨belowNow⟩⟩
           ·rw [if_neg c17] at H
            have c17b0 : decide (x7_1 < 0) = false := decide_eq_false c17
            clear c17
            by_cases c19 : 0 ≤ x7_1
            ·rw [if_pos c19] at H
             have c19b0 : decide (0 ≤ x7_1) = true := decide_eq_true c19
             clear c19
             by_cases c20 : x7_1 < (l0.length : Int)
             ·rw [if_pos c20] at H
              have c20b0 : decide (x7_1 < (l0.length : Int)) = true := decide_eq_true c20
              clear c20
              by_cases c21 : ((rd_T60 l0 x13_1).f1) > ((rd_T60 l0 x7_1).f1)
              ·rw [if_pos c21] at H
               have c21b0 : decide (((rd_T60 l0 x7_1).f1) < ((rd_T60 l0 x13_1).f1)) = true := decide_eq_true c21
               clear c21
               have H' := Aside0.mk H
               clear H
               have hcz22_0 : wc.cell? ⟨gb110, 0, none⟩ = some (.int .i64 ((rd_T60 l0 x13_1).f0)) := (blk_cell BK110.out 0).trans rfl
               have hcz22_1 : wc.cell? ⟨gb110, 1, none⟩ = some (.int .i64 ((rd_T60 l0 x13_1).f1)) := (blk_cell BK110.out 1).trans rfl
               have hcz22_2 : wc.cell? ⟨gb110, 2, none⟩ = some (.int .i64 ((rd_T60 l0 x13_1).f2)) := (blk_cell BK110.out 2).trans rfl
               have hcz22_3 : wc.cell? ⟨gb110, 3, none⟩ = some (.int .i64 ((rd_T60 l0 x13_1).f3)) := (blk_cell BK110.out 3).trans rfl
               have hcz22_4 : wc.cell? ⟨gb110, 4, none⟩ = some (.int .i64 ((rd_T60 l0 x13_1).f4)) := (blk_cell BK110.out 4).trans rfl
               have hfz22_0 := blk_frozen BK110.out 0
               have hfz22_1 := blk_frozen BK110.out 1
               have hfz22_2 := blk_frozen BK110.out 2
               have hfz22_3 := blk_frozen BK110.out 3
               have hfz22_4 := blk_frozen BK110.out 4
               have p112 : 0 ≤ (x7_1 : Int) := of_decide_eq_true (by first | (with_reducible assumption) | assumption)
               have q112 : x7_1 < (l0.length : Int) := of_decide_eq_true (by first | (with_reducible assumption) | assumption)
               obtain ⟨ad112, e112, hx112_0, hx112_1, hx112_2, hx112_3, hx112_4⟩ := at_T60 HR0.out x7_1 p112 q112
               obtain rfl : ad109 = ad112 := (by injection e112)
               replace hx112_0 := (HB.out.cell (World.block_lt_of_cell? w _ hx112_0)).trans hx112_0
               replace hx112_1 := (HB.out.cell (World.block_lt_of_cell? w _ hx112_1)).trans hx112_1
               replace hx112_2 := (HB.out.cell (World.block_lt_of_cell? w _ hx112_2)).trans hx112_2
               replace hx112_3 := (HB.out.cell (World.block_lt_of_cell? w _ hx112_3)).trans hx112_3
               replace hx112_4 := (HB.out.cell (World.block_lt_of_cell? w _ hx112_4)).trans hx112_4
               replace p112 := eq_true p112
               replace q112 := eq_true q112
               go_wp2
               repeat (go_quiet (fail); try go_wp2)
               go_roundg kj7
               case measure => have := HK1.out; have := HJ7.out; omega
               case rel => exact ⟨(x13_1), (x13_1), (wrap64 (x13_1 + 1)), (by first | rfl | (simp; done) | (simp [*]; done)), (by first | rfl | (simp; done) | (simp [*]; done)), (by first | rfl | (simp; done) | (simp [*]; done)), H', ⟨by have := HK1.out; have := HJ7.out; omega⟩, ⟨belowNow⟩⟩
              ·rw [if_neg c21] at H
               have c21b0 : decide (((rd_T60 l0 x7_1).f1) < ((rd_T60 l0 x13_1).f1)) = false := decide_eq_false c21
               clear c21
               have H' := Aside0.mk H
               clear H
               have hcz23_0 : wc.cell? ⟨gb110, 0, none⟩ = some (.int .i64 ((rd_T60 l0 x13_1).f0)) := (blk_cell BK110.out 0).trans rfl
               have hcz23_1 : wc.cell? ⟨gb110, 1, none⟩ = some (.int .i64 ((rd_T60 l0 x13_1).f1)) := (blk_cell BK110.out 1).trans rfl
               have hcz23_2 : wc.cell? ⟨gb110, 2, none⟩ = some (.int .i64 ((rd_T60 l0 x13_1).f2)) := (blk_cell BK110.out 2).trans rfl
               have hcz23_3 : wc.cell? ⟨gb110, 3, none⟩ = some (.int .i64 ((rd_T60 l0 x13_1).f3)) := (blk_cell BK110.out 3).trans rfl
               have hcz23_4 : wc.cell? ⟨gb110, 4, none⟩ = some (.int .i64 ((rd_T60 l0 x13_1).f4)) := (blk_cell BK110.out 4).trans rfl
               have hfz23_0 := blk_frozen BK110.out 0
               have hfz23_1 := blk_frozen BK110.out 1
               have hfz23_2 := blk_frozen BK110.out 2
               have hfz23_3 := blk_frozen BK110.out 3
               have hfz23_4 := blk_frozen BK110.out 4
               have p112 : 0 ≤ (x7_1 : Int) := of_decide_eq_true (by first | (with_reducible assumption) | assumption)
               have q112 : x7_1 < (l0.length : Int) := of_decide_eq_true (by first | (with_reducible assumption) | assumption)
               obtain ⟨ad112, e112, hx112_0, hx112_1, hx112_2, hx112_3, hx112_4⟩ := at_T60 HR0.out x7_1 p112 q112
               obtain rfl : ad109 = ad112 := (by injection e112)
               replace hx112_0 := (HB.out.cell (World.block_lt_of_cell? w _ hx112_0)).trans hx112_0
               replace hx112_1 := (HB.out.cell (World.block_lt_of_cell? w _ hx112_1)).trans hx112_1
               replace hx112_2 := (HB.out.cell (World.block_lt_of_cell? w _ hx112_2)).trans hx112_2
               replace hx112_3 := (HB.out.cell (World.block_lt_of_cell? w _ hx112_3)).trans hx112_3
               replace hx112_4 := (HB.out.cell (World.block_lt_of_cell? w _ hx112_4)).trans hx112_4
               replace p112 := eq_true p112
               replace q112 := eq_true q112
               go_wp2
               repeat (go_quiet (fail); try go_wp2)
               go_roundg kj7
               case measure => have := HK1.out; have := HJ7.out; omega
               case rel => exact ⟨(x7_1), (x13_1), (wrap64 (x13_1 + 1)), (by first | rfl | (simp; done) | (simp [*]; done)), (by first | rfl | (simp; done) | (simp [*]; done)), (by first | rfl | (simp; done) | (simp [*]; done)), H', ⟨by have := HK1.out; have := HJ7.out; omega⟩, ⟨belowNow⟩⟩
             ·rw [if_neg c20] at H
              exact absurd H (by simp)
            ·rw [if_neg c19] at H
             exact absurd H (by simp)
          ·rw [if_neg c16] at H
           have c16b0 : decide (((rd_T60 l0 x13_1).f1) ≤ (Int.tmod a2 86400)) = false := decide_eq_false c16
           clear c16
           have H' := Aside0.mk H
           clear H
           have hcz24_0 : wc.cell? ⟨gb110, 0, none⟩ = some (.int .i64 ((rd_T60 l0 x13_1).f0)) := (blk_cell BK110.out 0).trans rfl
           have hcz24_1 : wc.cell? ⟨gb110, 1, none⟩ = some (.int .i64 ((rd_T60 l0 x13_1).f1)) := (blk_cell BK110.out 1).trans rfl
           have hcz24_2 : wc.cell? ⟨gb110, 2, none⟩ = some (.int .i64 ((rd_T60 l0 x13_1).f2)) := (blk_cell BK110.out 2).trans rfl
           have hcz24_3 : wc.cell? ⟨gb110, 3, none⟩ = some (.int .i64 ((rd_T60 l0 x13_1).f3)) := (blk_cell BK110.out 3).trans rfl
           have hcz24_4 : wc.cell? ⟨gb110, 4, none⟩ = some (.int .i64 ((rd_T60 l0 x13_1).f4)) := (blk_cell BK110.out 4).trans rfl
           have hfz24_0 := blk_frozen BK110.out 0
           have hfz24_1 := blk_frozen BK110.out 1
           have hfz24_2 := blk_frozen BK110.out 2
           have hfz24_3 := blk_frozen BK110.out 3
           have hfz24_4 := blk_frozen BK110.out 4
           go_wp2
           repeat (go_quiet (fail); try go_wp2)
           go_roundg kj7
           case measure => have := HK1.out; have := HJ7.out; omega
           case rel => exact ⟨(x7_1), (x13_1), (wrap64 (x13_1 + 1)), (by first | rfl | (simp; done) | (simp [*]; done)), (by first | rfl | (simp; done) | (simp [*]; done)), (by first | rfl | (simp; done) | (simp [*]; done)), H', ⟨by have := HK1.out; have := HJ7.out; omega⟩, ⟨belowNow⟩⟩
         ·replace c15 := Bool.eq_false_iff.mpr c15
          subst c15
          have H1 : (if ((rd_T60 l0 x13_1).f1) ≤ (Int.tmod a2 86400) then (if x7_1 < 0 then (impl_tariffAt.l0 kj7 l0 a1 a2 x13_1 x8_1 l0 (l0.length : Int) (wrap64 (x13_1 + 1))) else (if 0 ≤ x7_1 then (if x7_1 < (l0.length : Int) then (if ((rd_T60 l0 x13_1).f1) > ((rd_T60 l0 x7_1).f1) then (impl_tariffAt.l0 kj7 l0 a1 a2 x13_1 x8_1 l0 (l0.length : Int) (wrap64 (x13_1 + 1))) else (impl_tariffAt.l0 kj7 l0 a1 a2 x7_1 x8_1 l0 (l0.length : Int) (wrap64 (x13_1 + 1)))) else (none)) else (none))) else (impl_tariffAt.l0 kj7 l0 a1 a2 x7_1 x8_1 l0 (l0.length : Int) (wrap64 (x13_1 + 1)))) = some r := by rw [if_neg (show ¬ (false = true) by decide)] at H; exact H
          clear H
          have H := H1
          clear H1
          by_cases c25 : ((rd_T60 l0 x13_1).f1) ≤ (Int.tmod a2 86400)
          ·rw [if_pos c25] at H
           have c25b0 : decide (((rd_T60 l0 x13_1).f1) ≤ (Int.tmod a2 86400)) = true := decide_eq_true c25
           clear c25
           by_cases c26 : x7_1 < 0
           ·rw [if_pos c26] at H
            have c26b0 : decide (x7_1 < 0) = true := decide_eq_true c26
            clear c26
            have H' := Aside0.mk H
            clear H
            have hcz27_0 : wc.cell? ⟨gb110, 0, none⟩ = some (.int .i64 ((rd_T60 l0 x13_1).f0)) := (blk_cell BK110.out 0).trans rfl
            have hcz27_1 : wc.cell? ⟨gb110, 1, none⟩ = some (.int .i64 ((rd_T60 l0 x13_1).f1)) := (blk_cell BK110.out 1).trans rfl
            have hcz27_2 : wc.cell? ⟨gb110, 2, none⟩ = some (.int .i64 ((rd_T60 l0 x13_1).f2)) := (blk_cell BK110.out 2).trans rfl
            have hcz27_3 : wc.cell? ⟨gb110, 3, none⟩ = some (.int .i64 ((rd_T60 l0 x13_1).f3)) := (blk_cell BK110.out 3).trans rfl
            have hcz27_4 : wc.cell? ⟨gb110, 4, none⟩ = some (.int .i64 ((rd_T60 l0 x13_1).f4)) := (blk_cell BK110.out 4).trans rfl
            have hfz27_0 := blk_frozen BK110.out 0
            have hfz27_1 := blk_frozen BK110.out 1
            have hfz27_2 := blk_frozen BK110.out 2
            have hfz27_3 := blk_frozen BK110.out 3
            have hfz27_4 := blk_frozen BK110.out 4
            go_wp2
            repeat (go_quiet (fail); try go_wp2)
            go_roundg kj7
            case measure => have := HK1.out; have := HJ7.out; omega
            case rel => exact ⟨(x13_1), (x8_1), (wrap64 (x13_1 + 1)), (by first | rfl | (simp; done) | (simp [*]; done)), (by first | rfl | (simp; done) | (simp [*]; done)), (by first | rfl | (simp; done) | (simp [*]; done)), H', ⟨by have := HK1.out; have := HJ7.out; omega⟩, ⟨belowNow⟩⟩
           ·rw [if_neg c26] at H
            have c26b0 : decide (x7_1 < 0) = false := decide_eq_false c26
            clear c26
            by_cases c28 : 0 ≤ x7_1
            ·rw [if_pos c28] at H
             have c28b0 : decide (0 ≤ x7_1) = true := decide_eq_true c28
             clear c28
             by_cases c29 : x7_1 < (l0.length : Int)
             ·rw [if_pos c29] at H
              have c29b0 : decide (x7_1 < (l0.length : Int)) = true := decide_eq_true c29
              clear c29
              by_cases c30 : ((rd_T60 l0 x13_1).f1) > ((rd_T60 l0 x7_1).f1)
              ·rw [if_pos c30] at H
               have c30b0 : decide (((rd_T60 l0 x7_1).f1) < ((rd_T60 l0 x13_1).f1)) = true := decide_eq_true c30
               clear c30
               have H' := Aside0.mk H
               clear H
               have hcz31_0 : wc.cell? ⟨gb110, 0, none⟩ = some (.int .i64 ((rd_T60 l0 x13_1).f0)) := (blk_cell BK110.out 0).trans rfl
               have hcz31_1 : wc.cell? ⟨gb110, 1, none⟩ = some (.int .i64 ((rd_T60 l0 x13_1).f1)) := (blk_cell BK110.out 1).trans rfl
               have hcz31_2 : wc.cell? ⟨gb110, 2, none⟩ = some (.int .i64 ((rd_T60 l0 x13_1).f2)) := (blk_cell BK110.out 2).trans rfl
               have hcz31_3 : wc.cell? ⟨gb110, 3, none⟩ = some (.int .i64 ((rd_T60 l0 x13_1).f3)) := (blk_cell BK110.out 3).trans rfl
               have hcz31_4 : wc.cell? ⟨gb110, 4, none⟩ = some (.int .i64 ((rd_T60 l0 x13_1).f4)) := (blk_cell BK110.out 4).trans rfl
               have hfz31_0 := blk_frozen BK110.out 0
               have hfz31_1 := blk_frozen BK110.out 1
               have hfz31_2 := blk_frozen BK110.out 2
               have hfz31_3 := blk_frozen BK110.out 3
               have hfz31_4 := blk_frozen BK110.out 4
               have p113 : 0 ≤ (x7_1 : Int) := of_decide_eq_true (by first | (with_reducible assumption) | assumption)
               have q113 : x7_1 < (l0.length : Int) := of_decide_eq_true (by first | (with_reducible assumption) | assumption)
               obtain ⟨ad113, e113, hx113_0, hx113_1, hx113_2, hx113_3, hx113_4⟩ := at_T60 HR0.out x7_1 p113 q113
               obtain rfl : ad109 = ad113 := (by injection e113)
               replace hx113_0 := (HB.out.cell (World.block_lt_of_cell? w _ hx113_0)).trans hx113_0
               replace hx113_1 := (HB.out.cell (World.block_lt_of_cell? w _ hx113_1)).trans hx113_1
               replace hx113_2 := (HB.out.cell (World.block_lt_of_cell? w _ hx113_2)).trans hx113_2
               replace hx113_3 := (HB.out.cell (World.block_lt_of_cell? w _ hx113_3)).trans hx113_3
               replace hx113_4 := (HB.out.cell (World.block_lt_of_cell? w _ hx113_4)).trans hx113_4
               replace p113 := eq_true p113
               replace q113 := eq_true q113
               go_wp2
               repeat (go_quiet (fail); try go_wp2)
               go_roundg kj7
               case measure => have := HK1.out; have := HJ7.out; omega
               case rel => exact ⟨(x13_1), (x8_1), (wrap64 (x13_1 + 1)), (by first | rfl | (simp; done) | (simp [*]; done)), (by first | rfl | (simp; done) | (simp [*]; done)), (by first | rfl | (simp; done) | (simp [*]; done)), H', ⟨by have := HK1.out; have := HJ7.out; omega⟩, ⟨belowNow⟩⟩
              ·rw [if_neg c30] at H
               have c30b0 : decide (((rd_T60 l0 x7_1).f1) < ((rd_T60 l0 x13_1).f1)) = false := decide_eq_false c30
               clear c30
               have H' := Aside0.mk H
               clear H
               have hcz32_0 : wc.cell? ⟨gb110, 0, none⟩ = some (.int .i64 ((rd_T60 l0 x13_1).f0)) := (blk_cell BK110.out 0).trans rfl
               have hcz32_1 : wc.cell? ⟨gb110, 1, none⟩ = some (.int .i64 ((rd_T60 l0 x13_1).f1)) := (blk_cell BK110.out 1).trans rfl
               have hcz32_2 : wc.cell? ⟨gb110, 2, none⟩ = some (.int .i64 ((rd_T60 l0 x13_1).f2)) := (blk_cell BK110.out 2).trans rfl
               have hcz32_3 : wc.cell? ⟨gb110, 3, none⟩ = some (.int .i64 ((rd_T60 l0 x13_1).f3)) := (blk_cell BK110.out 3).trans rfl
               have hcz32_4 : wc.cell? ⟨gb110, 4, none⟩ = some (.int .i64 ((rd_T60 l0 x13_1).f4)) := (blk_cell BK110.out 4).trans rfl
               have hfz32_0 := blk_frozen BK110.out 0
               have hfz32_1 := blk_frozen BK110.out 1
               have hfz32_2 := blk_frozen BK110.out 2
               have hfz32_3 := blk_frozen BK110.out 3
               have hfz32_4 := blk_frozen BK110.out 4
               have p113 : 0 ≤ (x7_1 : Int) := of_decide_eq_true (by first | (with_reducible assumption) | assumption)
               have q113 : x7_1 < (l0.length : Int) := of_decide_eq_true (by first | (with_reducible assumption) | assumption)
               obtain ⟨ad113, e113, hx113_0, hx113_1, hx113_2, hx113_3, hx113_4⟩ := at_T60 HR0.out x7_1 p113 q113
               obtain rfl : ad109 = ad113 := (by injection e113)
               replace hx113_0 := (HB.out.cell (World.block_lt_of_cell? w _ hx113_0)).trans hx113_0
               replace hx113_1 := (HB.out.cell (World.block_lt_of_cell? w _ hx113_1)).trans hx113_1
               replace hx113_2 := (HB.out.cell (World.block_lt_of_cell? w _ hx113_2)).trans hx113_2
               replace hx113_3 := (HB.out.cell (World.block_lt_of_cell? w _ hx113_3)).trans hx113_3
               replace hx113_4 := (HB.out.cell (World.block_lt_of_cell? w _ hx113_4)).trans hx113_4
               replace p113 := eq_true p113
               replace q113 := eq_true q113
               go_wp2
               repeat (go_quiet (fail); try go_wp2)
               go_roundg kj7
               case measure => have := HK1.out; have := HJ7.out; omega
               case rel => exact ⟨(x7_1), (x8_1), (wrap64 (x13_1 + 1)), (by first | rfl | (simp; done) | (simp [*]; done)), (by first | rfl | (simp; done) | (simp [*]; done)), (by first | rfl | (simp; done) | (simp [*]; done)), H', ⟨by have := HK1.out; have := HJ7.out; omega⟩, ⟨belowNow⟩⟩
             ·rw [if_neg c29] at H
              exact absurd H (by simp)
            ·rw [if_neg c28] at H
             exact absurd H (by simp)
          ·rw [if_neg c25] at H
           have c25b0 : decide (((rd_T60 l0 x13_1).f1) ≤ (Int.tmod a2 86400)) = false := decide_eq_false c25
           clear c25
           have H' := Aside0.mk H
           clear H
           have hcz33_0 : wc.cell? ⟨gb110, 0, none⟩ = some (.int .i64 ((rd_T60 l0 x13_1).f0)) := (blk_cell BK110.out 0).trans rfl
           have hcz33_1 : wc.cell? ⟨gb110, 1, none⟩ = some (.int .i64 ((rd_T60 l0 x13_1).f1)) := (blk_cell BK110.out 1).trans rfl
           have hcz33_2 : wc.cell? ⟨gb110, 2, none⟩ = some (.int .i64 ((rd_T60 l0 x13_1).f2)) := (blk_cell BK110.out 2).trans rfl
           have hcz33_3 : wc.cell? ⟨gb110, 3, none⟩ = some (.int .i64 ((rd_T60 l0 x13_1).f3)) := (blk_cell BK110.out 3).trans rfl
           have hcz33_4 : wc.cell? ⟨gb110, 4, none⟩ = some (.int .i64 ((rd_T60 l0 x13_1).f4)) := (blk_cell BK110.out 4).trans rfl
           have hfz33_0 := blk_frozen BK110.out 0
           have hfz33_1 := blk_frozen BK110.out 1
           have hfz33_2 := blk_frozen BK110.out 2
           have hfz33_3 := blk_frozen BK110.out 3
           have hfz33_4 := blk_frozen BK110.out 4
           go_wp2
           repeat (go_quiet (fail); try go_wp2)
           go_roundg kj7
           case measure => have := HK1.out; have := HJ7.out; omega
           case rel => exact ⟨(x7_1), (x8_1), (wrap64 (x13_1 + 1)), (by first | rfl | (simp; done) | (simp [*]; done)), (by first | rfl | (simp; done) | (simp [*]; done)), (by first | rfl | (simp; done) | (simp [*]; done)), H', ⟨by have := HK1.out; have := HJ7.out; omega⟩, ⟨belowNow⟩⟩
      ·rw [if_neg c7] at H
       have c7b0 : (((rd_T60 l0 x13_1).f0) == a1) = false := beq_eq_false_iff_ne.mpr c7
       have c7b1 : (((rd_T60 l0 x13_1).f0) != a1) = true := bne_iff_ne.mpr c7
       have H' := Aside0.mk H
       clear H
       have p109 : 0 ≤ (x13_1 : Int) := of_decide_eq_true (by first | (with_reducible assumption) | assumption)
       have q109 : x13_1 < (l0.length : Int) := of_decide_eq_true (by first | (with_reducible assumption) | assumption)
       obtain ⟨ad109, e109, hx109_0, hx109_1, hx109_2, hx109_3, hx109_4⟩ := at_T60 HR0.out x13_1 p109 q109
       cases e109
       replace hx109_0 := (HB.out.cell (World.block_lt_of_cell? w _ hx109_0)).trans hx109_0
       replace hx109_1 := (HB.out.cell (World.block_lt_of_cell? w _ hx109_1)).trans hx109_1
       replace hx109_2 := (HB.out.cell (World.block_lt_of_cell? w _ hx109_2)).trans hx109_2
       replace hx109_3 := (HB.out.cell (World.block_lt_of_cell? w _ hx109_3)).trans hx109_3
       replace hx109_4 := (HB.out.cell (World.block_lt_of_cell? w _ hx109_4)).trans hx109_4
       replace p109 := eq_true p109
       replace q109 := eq_true q109
       go_wp2_with (first | ((with_reducible refine gate_dst (N := 10) rfl ?_); refine box_event ?hg (N := 10) ?hd (cs := #[.int .i64 0, .int .i64 0, .int .i64 0, .int .i64 0, .int .i64 0]) (t := 60) ?hr ?_; (case hd => rfl); (case hg => rfl); (case hr => first | (go_simp; done) | (go_simp; rfl)); intro gb110 hg w34 hbox hb; have n0_ := Aside0.mk (below_step belowNow hb); have n1_ := Aside0.mk (hbox); have n2_ := Aside0.mk ((by rw [hg]; exact (below_size belowNow) : w.heap.size ≤ gb110)); have n3_ := n2_; clear HB; have HB := n0_; have BK110 := n1_; have GW110 := n2_; have GE110 := n3_; clear n0_ n1_ n2_ n3_; clear hb hbox hg; have hcz35_0 : w34.cell? ⟨gb110, 0, none⟩ = some (.int .i64 0) := (blk_cell BK110.out 0).trans rfl; have hcz35_1 : w34.cell? ⟨gb110, 1, none⟩ = some (.int .i64 0) := (blk_cell BK110.out 1).trans rfl; have hcz35_2 : w34.cell? ⟨gb110, 2, none⟩ = some (.int .i64 0) := (blk_cell BK110.out 2).trans rfl; have hcz35_3 : w34.cell? ⟨gb110, 3, none⟩ = some (.int .i64 0) := (blk_cell BK110.out 3).trans rfl; have hcz35_4 : w34.cell? ⟨gb110, 4, none⟩ = some (.int .i64 0) := (blk_cell BK110.out 4).trans rfl; have hfz35_0 := blk_frozen BK110.out 0; have hfz35_1 := blk_frozen BK110.out 1; have hfz35_2 := blk_frozen BK110.out 2; have hfz35_3 := blk_frozen BK110.out 3; have hfz35_4 := blk_frozen BK110.out 4) | ((with_reducible refine wp_region_quiet_lit ?qm ?qb ?_); (case qm => kernel_rfl); (case qb => kernel_rfl)) | ((with_reducible refine wpQuiet_step ?_); intro K hK; go_simp; first | (refine hK _ ?_; clear hK K) | (apply Exists.intro; refine ⟨fun _ => ?_, hK _ ?_⟩; rotate_left; clear hK K; rotate_left)) | ((with_reducible refine wpQuiet_nil ?_); intro _ hw'; obtain ⟨nq, hw''⟩ := hw'; subst hw''))
       go_roundg k1
       case measure => have := HK1.out; omega
       case rel => exact ⟨(x7_1), (x8_1), (wrap64 (x13_1 + 1)), (by first | rfl | (simp; done) | (simp [*]; done)), (by first | rfl | (simp; done) | (simp [*]; done)), (by first | rfl | (simp; done) | (simp [*]; done)), H', ⟨by have := HK1.out; omega⟩, ⟨belowNow⟩⟩
     ·rw [if_neg c6] at H
      exact absurd H (by simp)
    ·rw [if_neg c5] at H
     exact absurd H (by simp)
   ·rw [if_neg c4] at H
    have c4b0 : decide (x13_1 < (l0.length : Int)) = false := decide_eq_false c4
    clear c4
    by_cases c36 : x7_1 < 0
    ·rw [if_pos c36] at H
     have c36b0 : decide (x7_1 < 0) = true := decide_eq_true c36
     clear c36
     obtain rfl := Option.some.inj H
     go_wp2
     repeat (go_quiet (fail); try go_wp2)
     go_ret
     exact ⟨by first | rfl | (simp [errW_none, errW_some] <;> rfl) | (simp [*, errW_none, errW_some] <;> rfl), belowNow⟩
    ·rw [if_neg c36] at H
     have c36b0 : decide (x7_1 < 0) = false := decide_eq_false c36
     clear c36
     obtain rfl := Option.some.inj H
     go_wp2
     repeat (go_quiet (fail); try go_wp2)
     go_ret
     exact ⟨by first | rfl | (simp [errW_none, errW_some] <;> rfl) | (simp [*, errW_none, errW_some] <;> rfl), belowNow⟩

/-! ### impl_TariffAt: function 21 -/
def impl_TariffAt.f (k : Nat) (l0 : List (S60)) (a1 : Int) (a2 : Int) : Option (Int × Bool) := (impl_TariffsOk.f l0).bind fun t114 => (if t114 = true then ((impl_in.f a2 0 1000000000).bind fun t115 => (if t115 = true then ((impl_tariffAt.f k l0 a1 a2).bind fun t116 => (some (t116, decide (t116 ≥ 0)))) else (some ((-1), false)))) else (some ((-1), false)))
theorem impl_TariffAt.mono : ∀ a0 a1 a2 k, LeO (impl_TariffAt.f k a0 a1 a2) (impl_TariffAt.f (k + 1) a0 a1 a2) := by
 intro a0 a1 a2 k
 unfold impl_TariffAt.f
 repeat' first
   | (with_reducible exact impl_tariffAt.mono _ _ _ _)
   | (with_reducible exact LeO.refl _)
   | (with_reducible exact LeO.none _)
   | (with_reducible refine LeO.ite ?_ ?_)
   | (with_reducible refine LeO.bind ?_ (fun _ => ?_))
   | exact impl_tariffAt.mono _ _ _ _
   | exact LeO.none _
   | refine LeO.ite ?_ ?_
   | refine LeO.bind ?_ (fun _ => ?_)
set_option maxHeartbeats 8000000 in
set_option maxRecDepth 100000 in
theorem impl_TariffAt.calls (k : Nat) (A0 : Option Addr) (c0 : Nat) (l0 : List (S60)) (a1 : Int) (a2 : Int) (r1 : Int) (r2 : Bool) (w : World) (hr0 : Kd.C k60 w A0 l0.length l0) (hc0 : l0.length ≤ c0) (h : impl_TariffAt.f k l0 a1 a2 = some (r1, r2)) :
  Calls Try.prog 21 #[.slice A0 l0.length c0, .int .i64 a1, .int .i64 a2] w fun e w' => e = .returned (.tuple #[.int .i64 r1, .bool r2]) ∧ Below w.heap.size w w' := by
 have HR0 := Aside0.mk hr0
 have HC0 := Aside0.mk hc0
 clear hr0 hc0
 have HB := Aside0.mk (Below.refl w.heap.size w)
 have H : ((impl_TariffsOk.f l0).bind fun t114 => (if t114 = true then ((impl_in.f a2 0 1000000000).bind fun t115 => (if t115 = true then ((impl_tariffAt.f k l0 a1 a2).bind fun t116 => (some (t116, decide (t116 ≥ 0)))) else (some ((-1), false)))) else (some ((-1), false)))) = some (r1, r2) := h
 clear h
 replace H := Option.bind_eq_some_iff.mp H
 obtain ⟨t114, A40, H⟩ := H
 replace H : (if t114 = true then ((impl_in.f a2 0 1000000000).bind fun t115 => (if t115 = true then ((impl_tariffAt.f k l0 a1 a2).bind fun t116 => (some (t116, decide (t116 ≥ 0)))) else (some ((-1), false)))) else (some ((-1), false))) = some (r1, r2) := H
 have A4 := Aside0.mk A40
 clear A40
 by_cases c5 : t114 = true
 ·subst c5
  have H1 : ((impl_in.f a2 0 1000000000).bind fun t115 => (if t115 = true then ((impl_tariffAt.f k l0 a1 a2).bind fun t116 => (some (t116, decide (t116 ≥ 0)))) else (some ((-1), false)))) = some (r1, r2) := by rw [if_pos rfl] at H; exact H
  clear H
  have H := H1
  clear H1
  replace H := Option.bind_eq_some_iff.mp H
  obtain ⟨t115, A60, H⟩ := H
  replace H : (if t115 = true then ((impl_tariffAt.f k l0 a1 a2).bind fun t116 => (some (t116, decide (t116 ≥ 0)))) else (some ((-1), false))) = some (r1, r2) := H
  have A6 := Aside0.mk A60
  clear A60
  by_cases c7 : t115 = true
  ·subst c7
   have H1 : ((impl_tariffAt.f k l0 a1 a2).bind fun t116 => (some (t116, decide (t116 ≥ 0)))) = some (r1, r2) := by rw [if_pos rfl] at H; exact H
   clear H
   have H := H1
   clear H1
   replace H := Option.bind_eq_some_iff.mp H
   obtain ⟨t116, A80, H⟩ := H
   replace H : (some (t116, decide (t116 ≥ 0))) = some (r1, r2) := H
   have A8 := Aside0.mk A80
   clear A80
   simp only [Option.some.injEq, Prod.mk.injEq] at H
   obtain ⟨rfl, rfl⟩ := H
   go_enter Try.func21, Try.ntmps21
   go_wp2_with (first | ((with_reducible refine gate_callee (f := 18) rfl ?_); refine goesL_ (some 10) rfl rfl Try.func18 (by kernel_rfl) rfl #[.slice A0 l0.length c0] rfl (by (try simp only [List.map_toArray, List.map_cons, List.map_nil]); first | done | rfl | (simp only [List.length_drop, List.length_take]; rfl)) ?_; (with_reducible refine (impl_TariffsOk.calls _ _ l0 true _ ?side1 ?side2 A4.out).mono ?_); (case side1 => repeat (first | exact HR0.out | (with_reducible refine Kd.C_alloc ?_ _) | (with_reducible refine Kd.C_drewN ?_ _) | (with_reducible refine Kd.C_drew ?_))); (case side2 => exact HC0.out); rintro e w9 ⟨rfl, hb⟩; refine ⟨_, rfl, ?_⟩; have n0_ := Aside0.mk (below_step belowNow hb); clear HB; have HB := n0_; clear n0_; (try clear hb); (try clear hb2); (try clear hk); (try clear hi)) | (go_at_call 38; (with_reducible refine (impl_in.calls a2 0 1000000000 true _ A6.out).mono ?_); rintro e w' ⟨rfl, ⟨nd, rfl⟩⟩) | ((with_reducible refine gate_callee (f := 42) rfl ?_); refine goesL_ (some 20) rfl rfl Try.func42 (by kernel_rfl) rfl #[.slice A0 l0.length c0, .int .i64 a1, .int .i64 a2] rfl (by (try simp only [List.map_toArray, List.map_cons, List.map_nil]); first | done | rfl | (simp only [List.length_drop, List.length_take]; rfl)) ?_; (with_reducible refine (impl_tariffAt.calls k _ _ l0 a1 a2 t116 _ ?side1 ?side2 A8.out).mono ?_); (case side1 => repeat (first | exact (Kd.C_below HR0.out belowNow) | (with_reducible refine Kd.C_alloc ?_ _) | (with_reducible refine Kd.C_drewN ?_ _) | (with_reducible refine Kd.C_drew ?_))); (case side2 => exact HC0.out); rintro e w10 ⟨rfl, hb⟩; refine ⟨_, rfl, ?_⟩; have n0_ := Aside0.mk (below_step belowNow hb); clear HB; have HB := n0_; clear n0_; (try clear hb); (try clear hb2); (try clear hk); (try clear hi)))
   go_ret2
   exact ⟨by first | rfl | (simp [errW_none, errW_some] <;> rfl) | (simp [*, errW_none, errW_some] <;> rfl), belowNow⟩
  ·replace c7 := Bool.eq_false_iff.mpr c7
   subst c7
   have H1 : (some ((-1), false)) = some (r1, r2) := by rw [if_neg (show ¬ (false = true) by decide)] at H; exact H
   clear H
   have H := H1
   clear H1
   simp only [Option.some.injEq, Prod.mk.injEq] at H
   obtain ⟨rfl, rfl⟩ := H
   go_enter Try.func21, Try.ntmps21
   go_wp2_with (first | ((with_reducible refine gate_callee (f := 18) rfl ?_); refine goesL_ (some 10) rfl rfl Try.func18 (by kernel_rfl) rfl #[.slice A0 l0.length c0] rfl (by (try simp only [List.map_toArray, List.map_cons, List.map_nil]); first | done | rfl | (simp only [List.length_drop, List.length_take]; rfl)) ?_; (with_reducible refine (impl_TariffsOk.calls _ _ l0 true _ ?side1 ?side2 A4.out).mono ?_); (case side1 => repeat (first | exact HR0.out | (with_reducible refine Kd.C_alloc ?_ _) | (with_reducible refine Kd.C_drewN ?_ _) | (with_reducible refine Kd.C_drew ?_))); (case side2 => exact HC0.out); rintro e w11 ⟨rfl, hb⟩; refine ⟨_, rfl, ?_⟩; have n0_ := Aside0.mk (below_step belowNow hb); clear HB; have HB := n0_; clear n0_; (try clear hb); (try clear hb2); (try clear hk); (try clear hi)) | (go_at_call 38; (with_reducible refine (impl_in.calls a2 0 1000000000 false _ A6.out).mono ?_); rintro e w' ⟨rfl, ⟨nd, rfl⟩⟩))
   go_ret2
   exact ⟨by first | rfl | (simp [errW_none, errW_some] <;> rfl) | (simp [*, errW_none, errW_some] <;> rfl), belowNow⟩
 ·replace c5 := Bool.eq_false_iff.mpr c5
  subst c5
  have H1 : (some ((-1), false)) = some (r1, r2) := by rw [if_neg (show ¬ (false = true) by decide)] at H; exact H
  clear H
  have H := H1
  clear H1
  simp only [Option.some.injEq, Prod.mk.injEq] at H
  obtain ⟨rfl, rfl⟩ := H
  go_enter Try.func21, Try.ntmps21
  go_wp2_with (first | ((with_reducible refine gate_callee (f := 18) rfl ?_); refine goesL_ (some 10) rfl rfl Try.func18 (by kernel_rfl) rfl #[.slice A0 l0.length c0] rfl (by (try simp only [List.map_toArray, List.map_cons, List.map_nil]); first | done | rfl | (simp only [List.length_drop, List.length_take]; rfl)) ?_; (with_reducible refine (impl_TariffsOk.calls _ _ l0 false _ ?side1 ?side2 A4.out).mono ?_); (case side1 => repeat (first | exact HR0.out | (with_reducible refine Kd.C_alloc ?_ _) | (with_reducible refine Kd.C_drewN ?_ _) | (with_reducible refine Kd.C_drew ?_))); (case side2 => exact HC0.out); rintro e w12 ⟨rfl, hb⟩; refine ⟨_, rfl, ?_⟩; have n0_ := Aside0.mk (below_step belowNow hb); clear HB; have HB := n0_; clear n0_; (try clear hb); (try clear hb2); (try clear hk); (try clear hi)))
  go_ret2
  exact ⟨by first | rfl | (simp [errW_none, errW_some] <;> rfl) | (simp [*, errW_none, errW_some] <;> rfl), belowNow⟩

end Go.Proofs.Ytodehmbgcncnhaa.PFnReserved
