-- laid by a program of this session (wip/lay/lay.py); Lean checks it
import Derived.Test.YtllgjohkkahfgaaVFnTurns8Short
import Derived.Test.YtllgjohkkahfgaaPFnTurns8x0
import Derived.Test.YtllgjohkkahfgaaPFnTurns8x1
namespace Go.Proofs.Ytllgjohkkahfgaa.PFnTurns8
-- squashed
open Go.RowKit Go.Proofs.YtllgjohkkahfgaaW.PrintWords Go.Proofs.YtllgjohkkahfgaaW.PrintLast Go.Proofs.YtllgjohkkahfgaaW.PrintMore Go.Proofs.Ytllgjohkkahfgaa.Short
attribute [local go_sem] max2_int min2_int max_two min_two max_three min_three max_four min_four   -- for this text's walks alone
set_option linter.unusedVariables false
set_option linter.unusedSimpArgs false

/-! ### impl_Desk_next: function 45 -/
mutual
def impl_Desk_next.l0 : Nat → Int → List (S70) → Int → Int → Int → List (S41) → List (S70) → Int → Option (Int × Int × Bool)
 | 0, _, _, _, _, _, _, _, _ => none
 | k + 1, x5, x17, x18, x19, x107000, x107001, x107002, x107003 => if x19 < x18 then (if 0 ≤ x19 then (if x19 < (x17.length : Int) then ((impl_Desk_next_2.f x107001 ((rd_T70 x17 x19).f0) ((rd_T70 x17 x19).f1) ((rd_T70 x17 x19).f2) ((rd_T70 x17 x19).f3)).bind fun t110 => (if t110 = true then (if x5 ≥ 0 then (if 0 ≤ x5 then (if x5 < (x107002.length : Int) then (if ((rd_T70 x17 x19).f2) < ((rd_T70 x107002 x5).f2) then (impl_Desk_next.l0 k x5 x17 x18 (wrap64 (x19 + 1)) x107000 x107001 x107002 x107003) else (if ((rd_T70 x17 x19).f2) = ((rd_T70 x107002 x5).f2) then (if ((rd_T70 x17 x19).f3) ≥ ((rd_T70 x107002 x5).f3) then (impl_Desk_next.l0 k x5 x17 x18 (wrap64 (x19 + 1)) x107000 x107001 x107002 x107003) else (impl_Desk_next.l0 k x19 x17 x18 (wrap64 (x19 + 1)) x107000 x107001 x107002 x107003)) else (impl_Desk_next.l0 k x19 x17 x18 (wrap64 (x19 + 1)) x107000 x107001 x107002 x107003))) else (none)) else (none)) else (impl_Desk_next.l0 k x19 x17 x18 (wrap64 (x19 + 1)) x107000 x107001 x107002 x107003)) else (impl_Desk_next.l0 k x5 x17 x18 (wrap64 (x19 + 1)) x107000 x107001 x107002 x107003))) else (none)) else (none)) else (if x5 < 0 then (some (0, 0, false)) else (impl_Desk_next.l1 k x5 (-1) x107001 (x107001.length : Int) 0 x107000 x107001 x107002 x107003))
def impl_Desk_next.l1 : Nat → Int → Int → List (S41) → Int → Int → Int → List (S41) → List (S70) → Int → Option (Int × Int × Bool)
 | 0, _, _, _, _, _, _, _, _, _ => none
 | k + 1, x5, x10, x60, x61, x62, x107000, x107001, x107002, x107003 => if x62 < x61 then (if 0 ≤ x62 then (if x62 < (x60.length : Int) then (if 0 ≤ x5 then (if x5 < (x107002.length : Int) then ((impl_Desk_next_1.f ((rd_T70 x107002 x5).f0) ((rd_T70 x107002 x5).f1) ((rd_T70 x107002 x5).f2) ((rd_T70 x107002 x5).f3) ((rd_T41 x60 x62).f0) ((rd_T41 x60 x62).f1) ((rd_T41 x60 x62).f2)).bind fun t116 => (if t116 = true then (if x10 ≥ 0 then (if 0 ≤ x10 then (if x10 < (x107001.length : Int) then ((bits_OnesCount.f (IntKind.u64.wrap ((rd_T41 x60 x62).f0))).bind fun t119 => ((bits_OnesCount.f (IntKind.u64.wrap ((rd_T41 x107001 x10).f0))).bind fun t120 => (if t119 > t120 then (impl_Desk_next.l1 k x5 x10 x60 x61 (wrap64 (x62 + 1)) x107000 x107001 x107002 x107003) else (if t119 = t120 then (if ((rd_T41 x60 x62).f2) ≥ ((rd_T41 x107001 x10).f2) then (impl_Desk_next.l1 k x5 x10 x60 x61 (wrap64 (x62 + 1)) x107000 x107001 x107002 x107003) else (impl_Desk_next.l1 k x5 x62 x60 x61 (wrap64 (x62 + 1)) x107000 x107001 x107002 x107003)) else (impl_Desk_next.l1 k x5 x62 x60 x61 (wrap64 (x62 + 1)) x107000 x107001 x107002 x107003))))) else (none)) else (none)) else (impl_Desk_next.l1 k x5 x62 x60 x61 (wrap64 (x62 + 1)) x107000 x107001 x107002 x107003)) else (impl_Desk_next.l1 k x5 x10 x60 x61 (wrap64 (x62 + 1)) x107000 x107001 x107002 x107003))) else (none)) else (none)) else (none)) else (none)) else (some (x5, x10, true))
end
def impl_Desk_next.f (k : Nat) (a0_0 : Int) (l0_1 : List (S41)) (l0_2 : List (S70)) (a0_3 : Int) : Option (Int × Int × Bool) := impl_Desk_next.l0 k (-1) l0_2 (l0_2.length : Int) 0 a0_0 l0_1 l0_2 a0_3
theorem impl_Desk_next.mono_l : ∀ k, (∀ y0 y1 y2 y3 y4 y5 y6 y7, LeO (impl_Desk_next.l0 k y0 y1 y2 y3 y4 y5 y6 y7) (impl_Desk_next.l0 (k + 1) y0 y1 y2 y3 y4 y5 y6 y7)) ∧ (∀ y0 y1 y2 y3 y4 y5 y6 y7 y8, LeO (impl_Desk_next.l1 k y0 y1 y2 y3 y4 y5 y6 y7 y8) (impl_Desk_next.l1 (k + 1) y0 y1 y2 y3 y4 y5 y6 y7 y8))
 | 0 => ⟨fun _ _ _ _ _ _ _ _ r h => by simp [impl_Desk_next.l0] at h, fun _ _ _ _ _ _ _ _ _ r h => by simp [impl_Desk_next.l1] at h⟩
 | k + 1 => by
  obtain ⟨ih0, ih1⟩ := impl_Desk_next.mono_l k
  refine ⟨?_, ?_⟩
  ·intro y0 y1 y2 y3 y4 y5 y6 y7
   unfold impl_Desk_next.l0
   repeat' first
   | (with_reducible exact ih0 _ _ _ _ _ _ _ _)
   | (with_reducible exact ih1 _ _ _ _ _ _ _ _ _)
   | (with_reducible exact LeO.refl _)
   | (with_reducible exact LeO.none _)
   | (with_reducible refine LeO.ite ?_ ?_)
   | (with_reducible refine LeO.bind ?_ (fun _ => ?_))
   | exact ih0 _ _ _ _ _ _ _ _
   | exact ih1 _ _ _ _ _ _ _ _ _
   | exact LeO.none _
   | refine LeO.ite ?_ ?_
   | refine LeO.bind ?_ (fun _ => ?_)
  ·intro y0 y1 y2 y3 y4 y5 y6 y7 y8
   unfold impl_Desk_next.l1
   repeat' first
   | (with_reducible exact ih0 _ _ _ _ _ _ _ _)
   | (with_reducible exact ih1 _ _ _ _ _ _ _ _ _)
   | (with_reducible exact LeO.refl _)
   | (with_reducible exact LeO.none _)
   | (with_reducible refine LeO.ite ?_ ?_)
   | (with_reducible refine LeO.bind ?_ (fun _ => ?_))
   | exact ih0 _ _ _ _ _ _ _ _
   | exact ih1 _ _ _ _ _ _ _ _ _
   | exact LeO.none _
   | refine LeO.ite ?_ ?_
   | refine LeO.bind ?_ (fun _ => ?_)
theorem impl_Desk_next.mono : ∀ a0 a1 a2 a3 k, LeO (impl_Desk_next.f k a0 a1 a2 a3) (impl_Desk_next.f (k + 1) a0 a1 a2 a3) := by
 intro a0 a1 a2 a3 k
 obtain ⟨ih0, ih1⟩ := impl_Desk_next.mono_l k
 unfold impl_Desk_next.f
 repeat' first
   | (with_reducible exact ih0 _ _ _ _ _ _ _ _)
   | (with_reducible exact ih1 _ _ _ _ _ _ _ _ _)
   | (with_reducible exact LeO.refl _)
   | (with_reducible exact LeO.none _)
   | (with_reducible refine LeO.ite ?_ ?_)
   | (with_reducible refine LeO.bind ?_ (fun _ => ?_))
   | exact ih0 _ _ _ _ _ _ _ _
   | exact ih1 _ _ _ _ _ _ _ _ _
   | exact LeO.none _
   | refine LeO.ite ?_ ?_
   | refine LeO.bind ?_ (fun _ => ?_)
def impl_Desk_next.T18 : Bool × List (List Nat × List Nat) := (true, [([], []), ([], []), ([1], [1]), ([], []), ([2, 3], [2, 3]), ([4], [4]), ([], []), ([0, 5, 6], [0, 5, 6]), ([7], [7])])
def impl_Desk_next.B18 : List Nat := [0, 0, 2, 0, 14, 30, 0, 127, 255]
theorem impl_Desk_next.tab18 : rtab .any (opsOf Try.f45 18) = impl_Desk_next.T18 := by kernel_rfl
theorem impl_Desk_next.bits18 : waitsOk impl_Desk_next.T18.2 impl_Desk_next.B18 = true := by kernel_rfl
def impl_Desk_next.T21 : Bool × List (List Nat × List Nat) := (true, [([], []), ([0], [0]), ([1], [1]), ([2], [2]), ([], []), ([4], [4]), ([5], [5]), ([6, 3], [6]), ([3, 7, 0, 1, 2, 3], [3]), ([7, 8, 0, 1, 2, 3, 4, 5, 6, 7, 8], [7])])
def impl_Desk_next.B21 : List Nat := [0, 1, 3, 7, 0, 16, 48, 127, 255, 511]
theorem impl_Desk_next.tab21 : rtab .any (opsOf Try.f45 21) = impl_Desk_next.T21 := by kernel_rfl
theorem impl_Desk_next.bits21 : waitsOk impl_Desk_next.T21.2 impl_Desk_next.B21 = true := by kernel_rfl
set_option maxHeartbeats 8000000 in
set_option maxRecDepth 100000 in
theorem impl_Desk_next.calls (k : Nat) (a0_0 : Int) (A0_1 : Option Addr) (c0_1 : Nat) (l0_1 : List (S41)) (A0_2 : Option Addr) (c0_2 : Nat) (l0_2 : List (S70)) (a0_3 : Int) (r1 : Int) (r2 : Int) (r3 : Bool) (w : World) (hr0_1 : Kd.C k41 w A0_1 l0_1.length l0_1) (hc0_1 : l0_1.length ≤ c0_1) (hr0_2 : Kd.C k70 w A0_2 l0_2.length l0_2) (hc0_2 : l0_2.length ≤ c0_2) (h : impl_Desk_next.f k a0_0 l0_1 l0_2 a0_3 = some (r1, r2, r3)) :
  Calls Try.prog 45 #[.agg #[.int .i64 a0_0, .slice A0_1 l0_1.length c0_1, .slice A0_2 l0_2.length c0_2, .int .i64 a0_3]] w fun e w' => e = .returned (.tuple #[.int .i64 r1, .int .i64 r2, .bool r3]) ∧ Below w.heap.size w w' := by
 have hu31 := Try.underlying31
 have hu41 := Try.underlying41
 have hu70 := Try.underlying70
 have HR0_1 := Aside0.mk hr0_1
 have HC0_1 := Aside0.mk hc0_1
 clear hr0_1 hc0_1
 have HR0_2 := Aside0.mk hr0_2
 have HC0_2 := Aside0.mk hc0_2
 clear hr0_2 hc0_2
 have HB := Aside0.mk (Below.refl w.heap.size w)
 have H : (impl_Desk_next.l0 k (-1) l0_2 (l0_2.length : Int) 0 a0_0 l0_1 l0_2 a0_3) = some (r1, r2, r3) := h
 clear h
 have H' := Aside0.mk H
 clear H
 go_enter Try.func45, Try.ntmps45
 go_wp2_with (first | ((with_reducible refine gate_dst (N := 1) rfl ?_); refine box_event ?hg (N := 1) ?hd (cs := #[.int .i64 a0_0, .slice A0_1 l0_1.length c0_1, .slice A0_2 l0_2.length c0_2, .int .i64 a0_3]) (t := 31) ?hr ?_; (case hd => rfl); (case hg => rfl); (case hr => first | (go_simp; done) | (go_simp; rfl)); intro gb106 hg w2 hbox hb; have n0_ := Aside0.mk (below_step belowNow hb); have n1_ := Aside0.mk (hbox); have n2_ := Aside0.mk ((by rw [hg]; exact (below_size belowNow) : w.heap.size ≤ gb106)); have n3_ := n2_; clear HB; have HB := n0_; have BK106 := n1_; have GW106 := n2_; have GE106 := n3_; clear n0_ n1_ n2_ n3_; clear hb hbox hg) | ((with_reducible refine gate_dst (N := 6) rfl ?_); refine box_event ?hg (N := 6) ?hd (cs := #[.nilFunc]) (t := 106) ?hr ?_; (case hd => rfl); (case hg => rfl); (case hr => first | (go_simp; done) | (go_simp; rfl)); intro gb107 hg w3 hbox hb; have n0_ := Aside0.mk (blkStep (g := gb106) hb); have n1_ := Aside0.mk (below_step belowNow hb); have n2_ := Aside0.mk (hbox); have n3_ := Aside0.mk ((by rw [hg]; exact (below_size belowNow) : w.heap.size ≤ gb107)); have n4_ := n3_; have n5_ := Aside0.mk ((by rw [hg]; exact Nat.ne_of_lt (blkLt (g := gb106)) : gb106 ≠ gb107)); have n6_ := Aside0.mk ((by rw [hg]; exact Nat.ne_of_gt (blkLt (g := gb106)) : gb107 ≠ gb106)); clear BK106; clear HB; have BK106 := n0_; have HB := n1_; have BK107 := n2_; have GW107 := n3_; have GE107 := n4_; have NB106_107 := n5_; have NB107_106 := n6_; clear n0_ n1_ n2_ n3_ n4_ n5_ n6_; clear hb hbox hg; have hnb4 := NB107_106.out; have hnc4 := NB106_107.out; have hcz5_0 : w3.cell? ⟨gb107, 0, none⟩ = some (.nilFunc) := (blk_cell BK107.out 0).trans rfl; have hfz5_0 := blk_frozen BK107.out 0; have hcz6_0 : w3.cell? ⟨gb106, 0, none⟩ = some (.int .i64 a0_0) := (blk_cell BK106.out 0).trans rfl; have hcz6_1 : w3.cell? ⟨gb106, 1, none⟩ = some (.slice A0_1 l0_1.length c0_1) := (blk_cell BK106.out 1).trans rfl; have hcz6_2 : w3.cell? ⟨gb106, 2, none⟩ = some (.slice A0_2 l0_2.length c0_2) := (blk_cell BK106.out 2).trans rfl; have hcz6_3 : w3.cell? ⟨gb106, 3, none⟩ = some (.int .i64 a0_3) := (blk_cell BK106.out 3).trans rfl; have hfz6_0 := blk_frozen BK106.out 0; have hfz6_1 := blk_frozen BK106.out 1; have hfz6_2 := blk_frozen BK106.out 2; have hfz6_3 := blk_frozen BK106.out 3))
 go_loopg [5, 19] k (fun kq v5 v19 w' => ∃ (x5_1 : Int) (x19_1 : Int), v5 = .int .i64 x5_1 ∧ v19 = .int .i64 x19_1 ∧ Aside0 (impl_Desk_next.l0 kq x5_1 l0_2 (l0_2.length : Int) x19_1 a0_0 l0_1 l0_2 a0_3 = some (r1, r2, r3)) ∧ Aside0 (kq ≤ k) ∧ Aside0 (w'.heap[gb106]? = some (.cells #[.int .i64 a0_0, (.slice A0_1 l0_1.length c0_1), (.slice A0_2 l0_2.length c0_2), .int .i64 a0_3] 31 (0, 0))) ∧ Aside0 (w'.heap[gb107]? = some (.cells #[.func (.func 72) #[] #[]] 106 (0, 0))) ∧ Aside0 (Below w.heap.size w w'))
 case atStart => exact ⟨((-1)), (0), (by first | rfl | (simp; done) | (simp [*]; done)), (by first | rfl | (simp; done) | (simp [*]; done)), H', ⟨Nat.le_refl _⟩, ⟨blkFars⟩, ⟨by (with_reducible repeat (first | refine blk_drewN ?_ _ | refine blk_drew ?_ | refine blk_alloc ?_ _)); refine blk_put (cs := #[.nilFunc]) ?_ 0 _ rfl; (with_reducible repeat (first | refine blk_drewN ?_ _ | refine blk_drew ?_ | refine blk_alloc ?_ _)); exact BK107.out⟩, ⟨belowNow⟩⟩
 case round =>
  clear H'
  try clear p2
  try clear c4
  try clear hcz5_0
  try clear hcz5_1
  try clear hcz5_2
  try clear hcz6_0
  try clear hcz6_1
  try clear hcz6_2
  try clear hcz6_3
  try clear hfz5_0
  try clear hfz5_1
  try clear hfz5_2
  try clear hfz6_0
  try clear hfz6_1
  try clear hfz6_2
  try clear hfz6_3
  obtain ⟨x5_1, x19_1, rfl, rfl, HA, HK1, BK106, BK107, HB⟩ := hrel
  cases gk with
  | zero => exact absurd HA.out (by simp [impl_Desk_next.l0])
  | succ k1 =>
   have H := HA.out
   clear HA
   simp only [impl_Desk_next.l0] at H
   by_cases c7 : x19_1 < (l0_2.length : Int)
   ·rw [if_pos c7] at H
    have c7b0 : decide (x19_1 < (l0_2.length : Int)) = true := decide_eq_true c7
    clear c7
    by_cases c8 : 0 ≤ x19_1
    ·rw [if_pos c8] at H
     have c8b0 : decide (0 ≤ x19_1) = true := decide_eq_true c8
     clear c8
     by_cases c9 : x19_1 < (l0_2.length : Int)
     ·rw [if_pos c9] at H
      have c9b0 : decide (x19_1 < (l0_2.length : Int)) = true := decide_eq_true c9
      clear c9
      replace H := Option.bind_eq_some_iff.mp H
      obtain ⟨t110, A100, H⟩ := H
      replace H : (if t110 = true then (if x5_1 ≥ 0 then (if 0 ≤ x5_1 then (if x5_1 < (l0_2.length : Int) then (if ((rd_T70 l0_2 x19_1).f2) < ((rd_T70 l0_2 x5_1).f2) then (impl_Desk_next.l0 k1 x5_1 l0_2 (l0_2.length : Int) (wrap64 (x19_1 + 1)) a0_0 l0_1 l0_2 a0_3) else (if ((rd_T70 l0_2 x19_1).f2) = ((rd_T70 l0_2 x5_1).f2) then (if ((rd_T70 l0_2 x19_1).f3) ≥ ((rd_T70 l0_2 x5_1).f3) then (impl_Desk_next.l0 k1 x5_1 l0_2 (l0_2.length : Int) (wrap64 (x19_1 + 1)) a0_0 l0_1 l0_2 a0_3) else (impl_Desk_next.l0 k1 x19_1 l0_2 (l0_2.length : Int) (wrap64 (x19_1 + 1)) a0_0 l0_1 l0_2 a0_3)) else (impl_Desk_next.l0 k1 x19_1 l0_2 (l0_2.length : Int) (wrap64 (x19_1 + 1)) a0_0 l0_1 l0_2 a0_3))) else (none)) else (none)) else (impl_Desk_next.l0 k1 x19_1 l0_2 (l0_2.length : Int) (wrap64 (x19_1 + 1)) a0_0 l0_1 l0_2 a0_3)) else (impl_Desk_next.l0 k1 x5_1 l0_2 (l0_2.length : Int) (wrap64 (x19_1 + 1)) a0_0 l0_1 l0_2 a0_3)) = some (r1, r2, r3) := H
      have A10 := Aside0.mk A100
      clear A100
      by_cases c11 : t110 = true
      ·subst c11
       have H1 : (if x5_1 ≥ 0 then (if 0 ≤ x5_1 then (if x5_1 < (l0_2.length : Int) then (if ((rd_T70 l0_2 x19_1).f2) < ((rd_T70 l0_2 x5_1).f2) then (impl_Desk_next.l0 k1 x5_1 l0_2 (l0_2.length : Int) (wrap64 (x19_1 + 1)) a0_0 l0_1 l0_2 a0_3) else (if ((rd_T70 l0_2 x19_1).f2) = ((rd_T70 l0_2 x5_1).f2) then (if ((rd_T70 l0_2 x19_1).f3) ≥ ((rd_T70 l0_2 x5_1).f3) then (impl_Desk_next.l0 k1 x5_1 l0_2 (l0_2.length : Int) (wrap64 (x19_1 + 1)) a0_0 l0_1 l0_2 a0_3) else (impl_Desk_next.l0 k1 x19_1 l0_2 (l0_2.length : Int) (wrap64 (x19_1 + 1)) a0_0 l0_1 l0_2 a0_3)) else (impl_Desk_next.l0 k1 x19_1 l0_2 (l0_2.length : Int) (wrap64 (x19_1 + 1)) a0_0 l0_1 l0_2 a0_3))) else (none)) else (none)) else (impl_Desk_next.l0 k1 x19_1 l0_2 (l0_2.length : Int) (wrap64 (x19_1 + 1)) a0_0 l0_1 l0_2 a0_3)) = some (r1, r2, r3) := by rw [if_pos rfl] at H; exact H
       clear H
       have H := H1
       clear H1
       by_cases c12 : x5_1 ≥ 0
       ·rw [if_pos c12] at H
        have c12b0 : decide (0 ≤ x5_1) = true := decide_eq_true c12
        clear c12
        by_cases c13 : 0 ≤ x5_1
        ·rw [if_pos c13] at H
         have c13b0 : decide (0 ≤ x5_1) = true := decide_eq_true c13
         clear c13
         by_cases c14 : x5_1 < (l0_2.length : Int)
         ·rw [if_pos c14] at H
          have c14b0 : decide (x5_1 < (l0_2.length : Int)) = true := decide_eq_true c14
          clear c14
          by_cases c15 : ((rd_T70 l0_2 x19_1).f2) < ((rd_T70 l0_2 x5_1).f2)
          ·rw [if_pos c15] at H
           have c15b0 : decide (((rd_T70 l0_2 x19_1).f2) < ((rd_T70 l0_2 x5_1).f2)) = true := decide_eq_true c15
           clear c15
           have H' := Aside0.mk H
           clear H
           have p108 : 0 ≤ (x19_1 : Int) := of_decide_eq_true (by first | (with_reducible assumption) | assumption)
           have q108 : x19_1 < (l0_2.length : Int) := of_decide_eq_true (by first | (with_reducible assumption) | assumption)
           obtain ⟨ad108, e108, hx108_0, hx108_1, hx108_2, hx108_3⟩ := at_T70 HR0_2.out x19_1 p108 q108
           cases e108
           replace hx108_0 := (HB.out.cell (World.block_lt_of_cell? w _ hx108_0)).trans hx108_0
           replace hx108_1 := (HB.out.cell (World.block_lt_of_cell? w _ hx108_1)).trans hx108_1
           replace hx108_2 := (HB.out.cell (World.block_lt_of_cell? w _ hx108_2)).trans hx108_2
           replace hx108_3 := (HB.out.cell (World.block_lt_of_cell? w _ hx108_3)).trans hx108_3
           replace p108 := eq_true p108
           replace q108 := eq_true q108
           go_wp2_with (first | ((with_reducible refine gate_dst (N := 8) rfl ?_); refine box_event ?hg (N := 8) ?hd (cs := #[.int .i64 0, .int .i64 0, .int .i64 0, .int .i64 0]) (t := 70) ?hr ?_; (case hd => rfl); (case hg => rfl); (case hr => first | (go_simp; done) | (go_simp; rfl)); intro gb109 hg w16 hbox hb; have n0_ := Aside0.mk (blkStep (g := gb106) hb); have n1_ := Aside0.mk (blkStep (g := gb107) hb); have n2_ := Aside0.mk (below_step belowNow hb); have n3_ := Aside0.mk (hbox); have n4_ := Aside0.mk ((by rw [hg]; exact (below_size belowNow) : w.heap.size ≤ gb109)); have n5_ := n4_; have n6_ := Aside0.mk ((by rw [hg]; exact Nat.ne_of_lt (blkLt (g := gb106)) : gb106 ≠ gb109)); have n7_ := Aside0.mk ((by rw [hg]; exact Nat.ne_of_gt (blkLt (g := gb106)) : gb109 ≠ gb106)); have n8_ := Aside0.mk ((by rw [hg]; exact Nat.ne_of_lt (blkLt (g := gb107)) : gb107 ≠ gb109)); have n9_ := Aside0.mk ((by rw [hg]; exact Nat.ne_of_gt (blkLt (g := gb107)) : gb109 ≠ gb107)); clear BK106; clear BK107; clear HB; have BK106 := n0_; have BK107 := n1_; have HB := n2_; have BK109 := n3_; have GW109 := n4_; have GE109 := n5_; have NB106_109 := n6_; have NB109_106 := n7_; have NB107_109 := n8_; have NB109_107 := n9_; clear n0_ n1_ n2_ n3_ n4_ n5_ n6_ n7_ n8_ n9_; clear hb hbox hg; have hnb17 := NB109_106.out; have hnc17 := NB106_109.out; have hnb18 := NB109_107.out; have hnc18 := NB107_109.out; have hcz19_0 : w16.cell? ⟨gb109, 0, none⟩ = some (.int .i64 0) := (blk_cell BK109.out 0).trans rfl; have hcz19_1 : w16.cell? ⟨gb109, 1, none⟩ = some (.int .i64 0) := (blk_cell BK109.out 1).trans rfl; have hcz19_2 : w16.cell? ⟨gb109, 2, none⟩ = some (.int .i64 0) := (blk_cell BK109.out 2).trans rfl; have hcz19_3 : w16.cell? ⟨gb109, 3, none⟩ = some (.int .i64 0) := (blk_cell BK109.out 3).trans rfl; have hfz19_0 := blk_frozen BK109.out 0; have hfz19_1 := blk_frozen BK109.out 1; have hfz19_2 := blk_frozen BK109.out 2; have hfz19_3 := blk_frozen BK109.out 3; have hnb20 := NB106_107.out; have hnc20 := NB107_106.out; have hcz21_0 : w16.cell? ⟨gb106, 0, none⟩ = some (.int .i64 a0_0) := (blk_cell BK106.out 0).trans rfl; have hcz21_1 : w16.cell? ⟨gb106, 1, none⟩ = some (.slice A0_1 l0_1.length c0_1) := (blk_cell BK106.out 1).trans rfl; have hcz21_2 : w16.cell? ⟨gb106, 2, none⟩ = some (.slice (some ad108) l0_2.length c0_2) := (blk_cell BK106.out 2).trans rfl; have hcz21_3 : w16.cell? ⟨gb106, 3, none⟩ = some (.int .i64 a0_3) := (blk_cell BK106.out 3).trans rfl; have hfz21_0 := blk_frozen BK106.out 0; have hfz21_1 := blk_frozen BK106.out 1; have hfz21_2 := blk_frozen BK106.out 2; have hfz21_3 := blk_frozen BK106.out 3) | ((with_reducible refine gate_callee (f := 52) rfl ?_); refine goesL_ (some 27) rfl rfl Try.func52 (by kernel_rfl) rfl #[.slice A0_1 l0_1.length c0_1, .func (.func 73) #[] #[.pointer (some ⟨gb107, 0, none⟩), .pointer (some ⟨gb109, 0, none⟩)]] rfl (by (try simp only [List.map_toArray, List.map_cons, List.map_nil]); first | done | rfl | (simp only [List.length_drop, List.length_take]; rfl)) ?_; (with_reducible refine (impl_Desk_next_2.calls _ _ l0_1 ((rd_T70 l0_2 x19_1).f0) ((rd_T70 l0_2 x19_1).f1) ((rd_T70 l0_2 x19_1).f2) ((rd_T70 l0_2 x19_1).f3) true _ ?side1 ?side2 A10.out).mono ?_); (case side1 => exact Kd.C_below HR0_1.out belowNow); (case side2 => exact HC0_1.out); rintro e w22 ⟨rfl, hb⟩; refine ⟨_, rfl, ?_⟩; have n0_ := Aside0.mk (blk_below (g := gb106) (o := .cells #[.int .i64 a0_0, .slice A0_1 l0_1.length c0_1, .slice (some ad108) l0_2.length c0_2, .int .i64 a0_3] 31 (0, 0)) (blkFars) hb); have n1_ := Aside0.mk (blk_below (g := gb107) (o := .cells #[.func (.func 72) #[] #[]] 106 (0, 0)) (blkFars) hb); have n2_ := Aside0.mk (blk_below (g := gb109) (o := .cells #[.int .i64 ((rd_T70 l0_2 x19_1).f0), .int .i64 ((rd_T70 l0_2 x19_1).f1), .int .i64 ((rd_T70 l0_2 x19_1).f2), .int .i64 ((rd_T70 l0_2 x19_1).f3)] 70 (0, 0)) (by (with_reducible repeat (first | refine blk_drewN ?_ _ | refine blk_drew ?_ | refine blk_alloc ?_ _)); refine blk_put (cs := #[.int .i64 ((rd_T70 l0_2 x19_1).f0), .int .i64 ((rd_T70 l0_2 x19_1).f1), .int .i64 ((rd_T70 l0_2 x19_1).f2), .int .i64 0]) ?_ 3 _ rfl; (with_reducible repeat (first | refine blk_drewN ?_ _ | refine blk_drew ?_ | refine blk_alloc ?_ _)); refine blk_put (cs := #[.int .i64 ((rd_T70 l0_2 x19_1).f0), .int .i64 ((rd_T70 l0_2 x19_1).f1), .int .i64 0, .int .i64 0]) ?_ 2 _ rfl; (with_reducible repeat (first | refine blk_drewN ?_ _ | refine blk_drew ?_ | refine blk_alloc ?_ _)); refine blk_put (cs := #[.int .i64 ((rd_T70 l0_2 x19_1).f0), .int .i64 0, .int .i64 0, .int .i64 0]) ?_ 1 _ rfl; (with_reducible repeat (first | refine blk_drewN ?_ _ | refine blk_drew ?_ | refine blk_alloc ?_ _)); refine blk_put (cs := #[.int .i64 0, .int .i64 0, .int .i64 0, .int .i64 0]) ?_ 0 _ rfl; (with_reducible repeat (first | refine blk_drewN ?_ _ | refine blk_drew ?_ | refine blk_alloc ?_ _)); exact BK109.out) hb); have n3_ := Aside0.mk (below_step belowNow hb); clear BK106; clear BK107; clear BK109; clear HB; have BK106 := n0_; have BK107 := n1_; have BK109 := n2_; have HB := n3_; clear n0_ n1_ n2_ n3_; (try clear hb); (try clear hb2); (try clear hk); (try clear hi); have hcz23_0 : w22.cell? ⟨gb106, 0, none⟩ = some (.int .i64 a0_0) := (blk_cell BK106.out 0).trans rfl; have hcz23_1 : w22.cell? ⟨gb106, 1, none⟩ = some (.slice A0_1 l0_1.length c0_1) := (blk_cell BK106.out 1).trans rfl; have hcz23_2 : w22.cell? ⟨gb106, 2, none⟩ = some (.slice (some ad108) l0_2.length c0_2) := (blk_cell BK106.out 2).trans rfl; have hcz23_3 : w22.cell? ⟨gb106, 3, none⟩ = some (.int .i64 a0_3) := (blk_cell BK106.out 3).trans rfl; have hfz23_0 := blk_frozen BK106.out 0; have hfz23_1 := blk_frozen BK106.out 1; have hfz23_2 := blk_frozen BK106.out 2; have hfz23_3 := blk_frozen BK106.out 3; have p111 : 0 ≤ (x5_1 : Int) := of_decide_eq_true (by first | (with_reducible assumption) | assumption); have q111 : x5_1 < (l0_2.length : Int) := of_decide_eq_true (by first | (with_reducible assumption) | assumption); obtain ⟨ad111, e111, hx111_0, hx111_1, hx111_2, hx111_3⟩ := at_T70 HR0_2.out x5_1 p111 q111; obtain rfl : ad108 = ad111 := (by injection e111); replace hx111_0 := (HB.out.cell (World.block_lt_of_cell? w _ hx111_0)).trans hx111_0; replace hx111_1 := (HB.out.cell (World.block_lt_of_cell? w _ hx111_1)).trans hx111_1; replace hx111_2 := (HB.out.cell (World.block_lt_of_cell? w _ hx111_2)).trans hx111_2; replace hx111_3 := (HB.out.cell (World.block_lt_of_cell? w _ hx111_3)).trans hx111_3; replace p111 := eq_true p111; replace q111 := eq_true q111) | ((with_reducible refine gate_dst (N := 9) rfl ?_); refine box_event ?hg (N := 9) ?hd (cs := #[.int .i64 0, .int .i64 0, .int .i64 0, .int .i64 0]) (t := 70) ?hr ?_; (case hd => rfl); (case hg => rfl); (case hr => first | (go_simp; done) | (go_simp; rfl)); intro gb112 hg w24 hbox hb; have n0_ := Aside0.mk (blkStep (g := gb106) hb); have n1_ := Aside0.mk (blkStep (g := gb107) hb); have n2_ := Aside0.mk (blkStep (g := gb109) hb); have n3_ := Aside0.mk (below_step belowNow hb); have n4_ := Aside0.mk (hbox); have n5_ := Aside0.mk ((by rw [hg]; exact (below_size belowNow) : w.heap.size ≤ gb112)); have n6_ := n5_; have n7_ := Aside0.mk ((by rw [hg]; exact Nat.ne_of_lt (blkLt (g := gb106)) : gb106 ≠ gb112)); have n8_ := Aside0.mk ((by rw [hg]; exact Nat.ne_of_gt (blkLt (g := gb106)) : gb112 ≠ gb106)); have n9_ := Aside0.mk ((by rw [hg]; exact Nat.ne_of_lt (blkLt (g := gb107)) : gb107 ≠ gb112)); have n10_ := Aside0.mk ((by rw [hg]; exact Nat.ne_of_gt (blkLt (g := gb107)) : gb112 ≠ gb107)); have n11_ := Aside0.mk ((by rw [hg]; exact Nat.ne_of_lt (blkLt (g := gb109)) : gb109 ≠ gb112)); have n12_ := Aside0.mk ((by rw [hg]; exact Nat.ne_of_gt (blkLt (g := gb109)) : gb112 ≠ gb109)); clear BK106; clear BK107; clear BK109; clear HB; have BK106 := n0_; have BK107 := n1_; have BK109 := n2_; have HB := n3_; have BK112 := n4_; have GW112 := n5_; have GE112 := n6_; have NB106_112 := n7_; have NB112_106 := n8_; have NB107_112 := n9_; have NB112_107 := n10_; have NB109_112 := n11_; have NB112_109 := n12_; clear n0_ n1_ n2_ n3_ n4_ n5_ n6_ n7_ n8_ n9_ n10_ n11_ n12_; clear hb hbox hg; have hnb25 := NB112_106.out; have hnc25 := NB106_112.out; have hnb26 := NB112_107.out; have hnc26 := NB107_112.out; have hnb27 := NB112_109.out; have hnc27 := NB109_112.out; have hcz28_0 : w24.cell? ⟨gb112, 0, none⟩ = some (.int .i64 0) := (blk_cell BK112.out 0).trans rfl; have hcz28_1 : w24.cell? ⟨gb112, 1, none⟩ = some (.int .i64 0) := (blk_cell BK112.out 1).trans rfl; have hcz28_2 : w24.cell? ⟨gb112, 2, none⟩ = some (.int .i64 0) := (blk_cell BK112.out 2).trans rfl; have hcz28_3 : w24.cell? ⟨gb112, 3, none⟩ = some (.int .i64 0) := (blk_cell BK112.out 3).trans rfl; have hfz28_0 := blk_frozen BK112.out 0; have hfz28_1 := blk_frozen BK112.out 1; have hfz28_2 := blk_frozen BK112.out 2; have hfz28_3 := blk_frozen BK112.out 3; have hcz29_0 : w24.cell? ⟨gb109, 0, none⟩ = some (.int .i64 ((rd_T70 l0_2 x19_1).f0)) := (blk_cell BK109.out 0).trans rfl; have hcz29_1 : w24.cell? ⟨gb109, 1, none⟩ = some (.int .i64 ((rd_T70 l0_2 x19_1).f1)) := (blk_cell BK109.out 1).trans rfl; have hcz29_2 : w24.cell? ⟨gb109, 2, none⟩ = some (.int .i64 ((rd_T70 l0_2 x19_1).f2)) := (blk_cell BK109.out 2).trans rfl; have hcz29_3 : w24.cell? ⟨gb109, 3, none⟩ = some (.int .i64 ((rd_T70 l0_2 x19_1).f3)) := (blk_cell BK109.out 3).trans rfl; have hfz29_0 := blk_frozen BK109.out 0; have hfz29_1 := blk_frozen BK109.out 1; have hfz29_2 := blk_frozen BK109.out 2; have hfz29_3 := blk_frozen BK109.out 3))
           go_roundg k1
           case measure => have := HK1.out; omega
           case rel => exact ⟨(x5_1), (wrap64 (x19_1 + 1)), (by first | rfl | (simp; done) | (simp [*]; done)), (by first | rfl | (simp; done) | (simp [*]; done)), H', ⟨by have := HK1.out; omega⟩, ⟨blkFars⟩, ⟨blkFars⟩, ⟨belowNow⟩⟩
          ·rw [if_neg c15] at H
           have c15b0 : decide (((rd_T70 l0_2 x19_1).f2) < ((rd_T70 l0_2 x5_1).f2)) = false := decide_eq_false c15
           clear c15
           by_cases c30 : ((rd_T70 l0_2 x19_1).f2) = ((rd_T70 l0_2 x5_1).f2)
           ·rw [if_pos c30] at H
            have c30b0 : (((rd_T70 l0_2 x19_1).f2) == ((rd_T70 l0_2 x5_1).f2)) = true := beq_iff_eq.mpr c30
            have c30b1 : (((rd_T70 l0_2 x19_1).f2) != ((rd_T70 l0_2 x5_1).f2)) = false := bne_eq_false_iff_eq.mpr c30
            clear c30
            by_cases c31 : ((rd_T70 l0_2 x19_1).f3) ≥ ((rd_T70 l0_2 x5_1).f3)
            ·rw [if_pos c31] at H
             have c31b0 : decide (((rd_T70 l0_2 x5_1).f3) ≤ ((rd_T70 l0_2 x19_1).f3)) = true := decide_eq_true c31
             clear c31
             have H' := Aside0.mk H
             clear H
             have p108 : 0 ≤ (x19_1 : Int) := of_decide_eq_true (by first | (with_reducible assumption) | assumption)
             have q108 : x19_1 < (l0_2.length : Int) := of_decide_eq_true (by first | (with_reducible assumption) | assumption)
             obtain ⟨ad108, e108, hx108_0, hx108_1, hx108_2, hx108_3⟩ := at_T70 HR0_2.out x19_1 p108 q108
             cases e108
             replace hx108_0 := (HB.out.cell (World.block_lt_of_cell? w _ hx108_0)).trans hx108_0
             replace hx108_1 := (HB.out.cell (World.block_lt_of_cell? w _ hx108_1)).trans hx108_1
             replace hx108_2 := (HB.out.cell (World.block_lt_of_cell? w _ hx108_2)).trans hx108_2
             replace hx108_3 := (HB.out.cell (World.block_lt_of_cell? w _ hx108_3)).trans hx108_3
             replace p108 := eq_true p108
             replace q108 := eq_true q108
             go_wp2_with (first | ((with_reducible refine gate_dst (N := 8) rfl ?_); refine box_event ?hg (N := 8) ?hd (cs := #[.int .i64 0, .int .i64 0, .int .i64 0, .int .i64 0]) (t := 70) ?hr ?_; (case hd => rfl); (case hg => rfl); (case hr => first | (go_simp; done) | (go_simp; rfl)); intro gb109 hg w32 hbox hb; have n0_ := Aside0.mk (blkStep (g := gb106) hb); have n1_ := Aside0.mk (blkStep (g := gb107) hb); have n2_ := Aside0.mk (below_step belowNow hb); have n3_ := Aside0.mk (hbox); have n4_ := Aside0.mk ((by rw [hg]; exact (below_size belowNow) : w.heap.size ≤ gb109)); have n5_ := n4_; have n6_ := Aside0.mk ((by rw [hg]; exact Nat.ne_of_lt (blkLt (g := gb106)) : gb106 ≠ gb109)); have n7_ := Aside0.mk ((by rw [hg]; exact Nat.ne_of_gt (blkLt (g := gb106)) : gb109 ≠ gb106)); have n8_ := Aside0.mk ((by rw [hg]; exact Nat.ne_of_lt (blkLt (g := gb107)) : gb107 ≠ gb109)); have n9_ := Aside0.mk ((by rw [hg]; exact Nat.ne_of_gt (blkLt (g := gb107)) : gb109 ≠ gb107)); clear BK106; clear BK107; clear HB; have BK106 := n0_; have BK107 := n1_; have HB := n2_; have BK109 := n3_; have GW109 := n4_; have GE109 := n5_; have NB106_109 := n6_; have NB109_106 := n7_; have NB107_109 := n8_; have NB109_107 := n9_; clear n0_ n1_ n2_ n3_ n4_ n5_ n6_ n7_ n8_ n9_; clear hb hbox hg; have hnb33 := NB109_106.out; have hnc33 := NB106_109.out; have hnb34 := NB109_107.out; have hnc34 := NB107_109.out; have hcz35_0 : w32.cell? ⟨gb109, 0, none⟩ = some (.int .i64 0) := (blk_cell BK109.out 0).trans rfl; have hcz35_1 : w32.cell? ⟨gb109, 1, none⟩ = some (.int .i64 0) := (blk_cell BK109.out 1).trans rfl; have hcz35_2 : w32.cell? ⟨gb109, 2, none⟩ = some (.int .i64 0) := (blk_cell BK109.out 2).trans rfl; have hcz35_3 : w32.cell? ⟨gb109, 3, none⟩ = some (.int .i64 0) := (blk_cell BK109.out 3).trans rfl; have hfz35_0 := blk_frozen BK109.out 0; have hfz35_1 := blk_frozen BK109.out 1; have hfz35_2 := blk_frozen BK109.out 2; have hfz35_3 := blk_frozen BK109.out 3; have hnb36 := NB106_107.out; have hnc36 := NB107_106.out; have hcz37_0 : w32.cell? ⟨gb106, 0, none⟩ = some (.int .i64 a0_0) := (blk_cell BK106.out 0).trans rfl; have hcz37_1 : w32.cell? ⟨gb106, 1, none⟩ = some (.slice A0_1 l0_1.length c0_1) := (blk_cell BK106.out 1).trans rfl; have hcz37_2 : w32.cell? ⟨gb106, 2, none⟩ = some (.slice (some ad108) l0_2.length c0_2) := (blk_cell BK106.out 2).trans rfl; have hcz37_3 : w32.cell? ⟨gb106, 3, none⟩ = some (.int .i64 a0_3) := (blk_cell BK106.out 3).trans rfl; have hfz37_0 := blk_frozen BK106.out 0; have hfz37_1 := blk_frozen BK106.out 1; have hfz37_2 := blk_frozen BK106.out 2; have hfz37_3 := blk_frozen BK106.out 3) | ((with_reducible refine gate_callee (f := 52) rfl ?_); refine goesL_ (some 27) rfl rfl Try.func52 (by kernel_rfl) rfl #[.slice A0_1 l0_1.length c0_1, .func (.func 73) #[] #[.pointer (some ⟨gb107, 0, none⟩), .pointer (some ⟨gb109, 0, none⟩)]] rfl (by (try simp only [List.map_toArray, List.map_cons, List.map_nil]); first | done | rfl | (simp only [List.length_drop, List.length_take]; rfl)) ?_; (with_reducible refine (impl_Desk_next_2.calls _ _ l0_1 ((rd_T70 l0_2 x19_1).f0) ((rd_T70 l0_2 x19_1).f1) ((rd_T70 l0_2 x19_1).f2) ((rd_T70 l0_2 x19_1).f3) true _ ?side1 ?side2 A10.out).mono ?_); (case side1 => exact Kd.C_below HR0_1.out belowNow); (case side2 => exact HC0_1.out); rintro e w38 ⟨rfl, hb⟩; refine ⟨_, rfl, ?_⟩; have n0_ := Aside0.mk (blk_below (g := gb106) (o := .cells #[.int .i64 a0_0, .slice A0_1 l0_1.length c0_1, .slice (some ad108) l0_2.length c0_2, .int .i64 a0_3] 31 (0, 0)) (blkFars) hb); have n1_ := Aside0.mk (blk_below (g := gb107) (o := .cells #[.func (.func 72) #[] #[]] 106 (0, 0)) (blkFars) hb); have n2_ := Aside0.mk (blk_below (g := gb109) (o := .cells #[.int .i64 ((rd_T70 l0_2 x19_1).f0), .int .i64 ((rd_T70 l0_2 x19_1).f1), .int .i64 ((rd_T70 l0_2 x19_1).f2), .int .i64 ((rd_T70 l0_2 x19_1).f3)] 70 (0, 0)) (by (with_reducible repeat (first | refine blk_drewN ?_ _ | refine blk_drew ?_ | refine blk_alloc ?_ _)); refine blk_put (cs := #[.int .i64 ((rd_T70 l0_2 x19_1).f0), .int .i64 ((rd_T70 l0_2 x19_1).f1), .int .i64 ((rd_T70 l0_2 x19_1).f2), .int .i64 0]) ?_ 3 _ rfl; (with_reducible repeat (first | refine blk_drewN ?_ _ | refine blk_drew ?_ | refine blk_alloc ?_ _)); refine blk_put (cs := #[.int .i64 ((rd_T70 l0_2 x19_1).f0), .int .i64 ((rd_T70 l0_2 x19_1).f1), .int .i64 0, .int .i64 0]) ?_ 2 _ rfl; (with_reducible repeat (first | refine blk_drewN ?_ _ | refine blk_drew ?_ | refine blk_alloc ?_ _)); refine blk_put (cs := #[.int .i64 ((rd_T70 l0_2 x19_1).f0), .int .i64 0, .int .i64 0, .int .i64 0]) ?_ 1 _ rfl; (with_reducible repeat (first | refine blk_drewN ?_ _ | refine blk_drew ?_ | refine blk_alloc ?_ _)); refine blk_put (cs := #[.int .i64 0, .int .i64 0, .int .i64 0, .int .i64 0]) ?_ 0 _ rfl; (with_reducible repeat (first | refine blk_drewN ?_ _ | refine blk_drew ?_ | refine blk_alloc ?_ _)); exact BK109.out) hb); have n3_ := Aside0.mk (below_step belowNow hb); clear BK106; clear BK107; clear BK109; clear HB; have BK106 := n0_; have BK107 := n1_; have BK109 := n2_; have HB := n3_; clear n0_ n1_ n2_ n3_; (try clear hb); (try clear hb2); (try clear hk); (try clear hi); have hcz39_0 : w38.cell? ⟨gb106, 0, none⟩ = some (.int .i64 a0_0) := (blk_cell BK106.out 0).trans rfl; have hcz39_1 : w38.cell? ⟨gb106, 1, none⟩ = some (.slice A0_1 l0_1.length c0_1) := (blk_cell BK106.out 1).trans rfl; have hcz39_2 : w38.cell? ⟨gb106, 2, none⟩ = some (.slice (some ad108) l0_2.length c0_2) := (blk_cell BK106.out 2).trans rfl; have hcz39_3 : w38.cell? ⟨gb106, 3, none⟩ = some (.int .i64 a0_3) := (blk_cell BK106.out 3).trans rfl; have hfz39_0 := blk_frozen BK106.out 0; have hfz39_1 := blk_frozen BK106.out 1; have hfz39_2 := blk_frozen BK106.out 2; have hfz39_3 := blk_frozen BK106.out 3; have p111 : 0 ≤ (x5_1 : Int) := of_decide_eq_true (by first | (with_reducible assumption) | assumption); have q111 : x5_1 < (l0_2.length : Int) := of_decide_eq_true (by first | (with_reducible assumption) | assumption); obtain ⟨ad111, e111, hx111_0, hx111_1, hx111_2, hx111_3⟩ := at_T70 HR0_2.out x5_1 p111 q111; obtain rfl : ad108 = ad111 := (by injection e111); replace hx111_0 := (HB.out.cell (World.block_lt_of_cell? w _ hx111_0)).trans hx111_0; replace hx111_1 := (HB.out.cell (World.block_lt_of_cell? w _ hx111_1)).trans hx111_1; replace hx111_2 := (HB.out.cell (World.block_lt_of_cell? w _ hx111_2)).trans hx111_2; replace hx111_3 := (HB.out.cell (World.block_lt_of_cell? w _ hx111_3)).trans hx111_3; replace p111 := eq_true p111; replace q111 := eq_true q111) | ((with_reducible refine gate_dst (N := 9) rfl ?_); refine box_event ?hg (N := 9) ?hd (cs := #[.int .i64 0, .int .i64 0, .int .i64 0, .int .i64 0]) (t := 70) ?hr ?_; (case hd => rfl); (case hg => rfl); (case hr => first | (go_simp; done) | (go_simp; rfl)); intro gb112 hg w40 hbox hb; have n0_ := Aside0.mk (blkStep (g := gb106) hb); have n1_ := Aside0.mk (blkStep (g := gb107) hb); have n2_ := Aside0.mk (blkStep (g := gb109) hb); have n3_ := Aside0.mk (below_step belowNow hb); have n4_ := Aside0.mk (hbox); have n5_ := Aside0.mk ((by rw [hg]; exact (below_size belowNow) : w.heap.size ≤ gb112)); have n6_ := n5_; have n7_ := Aside0.mk ((by rw [hg]; exact Nat.ne_of_lt (blkLt (g := gb106)) : gb106 ≠ gb112)); have n8_ := Aside0.mk ((by rw [hg]; exact Nat.ne_of_gt (blkLt (g := gb106)) : gb112 ≠ gb106)); have n9_ := Aside0.mk ((by rw [hg]; exact Nat.ne_of_lt (blkLt (g := gb107)) : gb107 ≠ gb112)); have n10_ := Aside0.mk ((by rw [hg]; exact Nat.ne_of_gt (blkLt (g := gb107)) : gb112 ≠ gb107)); have n11_ := Aside0.mk ((by rw [hg]; exact Nat.ne_of_lt (blkLt (g := gb109)) : gb109 ≠ gb112)); have n12_ := Aside0.mk ((by rw [hg]; exact Nat.ne_of_gt (blkLt (g := gb109)) : gb112 ≠ gb109)); clear BK106; clear BK107; clear BK109; clear HB; have BK106 := n0_; have BK107 := n1_; have BK109 := n2_; have HB := n3_; have BK112 := n4_; have GW112 := n5_; have GE112 := n6_; have NB106_112 := n7_; have NB112_106 := n8_; have NB107_112 := n9_; have NB112_107 := n10_; have NB109_112 := n11_; have NB112_109 := n12_; clear n0_ n1_ n2_ n3_ n4_ n5_ n6_ n7_ n8_ n9_ n10_ n11_ n12_; clear hb hbox hg; have hnb41 := NB112_106.out; have hnc41 := NB106_112.out; have hnb42 := NB112_107.out; have hnc42 := NB107_112.out; have hnb43 := NB112_109.out; have hnc43 := NB109_112.out; have hcz44_0 : w40.cell? ⟨gb112, 0, none⟩ = some (.int .i64 0) := (blk_cell BK112.out 0).trans rfl; have hcz44_1 : w40.cell? ⟨gb112, 1, none⟩ = some (.int .i64 0) := (blk_cell BK112.out 1).trans rfl; have hcz44_2 : w40.cell? ⟨gb112, 2, none⟩ = some (.int .i64 0) := (blk_cell BK112.out 2).trans rfl; have hcz44_3 : w40.cell? ⟨gb112, 3, none⟩ = some (.int .i64 0) := (blk_cell BK112.out 3).trans rfl; have hfz44_0 := blk_frozen BK112.out 0; have hfz44_1 := blk_frozen BK112.out 1; have hfz44_2 := blk_frozen BK112.out 2; have hfz44_3 := blk_frozen BK112.out 3; have hcz45_0 : w40.cell? ⟨gb109, 0, none⟩ = some (.int .i64 ((rd_T70 l0_2 x19_1).f0)) := (blk_cell BK109.out 0).trans rfl; have hcz45_1 : w40.cell? ⟨gb109, 1, none⟩ = some (.int .i64 ((rd_T70 l0_2 x19_1).f1)) := (blk_cell BK109.out 1).trans rfl; have hcz45_2 : w40.cell? ⟨gb109, 2, none⟩ = some (.int .i64 ((rd_T70 l0_2 x19_1).f2)) := (blk_cell BK109.out 2).trans rfl; have hcz45_3 : w40.cell? ⟨gb109, 3, none⟩ = some (.int .i64 ((rd_T70 l0_2 x19_1).f3)) := (blk_cell BK109.out 3).trans rfl; have hfz45_0 := blk_frozen BK109.out 0; have hfz45_1 := blk_frozen BK109.out 1; have hfz45_2 := blk_frozen BK109.out 2; have hfz45_3 := blk_frozen BK109.out 3))
             go_roundg k1
             case measure => have := HK1.out; omega
             case rel => exact ⟨(x5_1), (wrap64 (x19_1 + 1)), (by first | rfl | (simp; done) | (simp [*]; done)), (by first | rfl | (simp; done) | (simp [*]; done)), H', ⟨by have := HK1.out; omega⟩, ⟨blkFars⟩, ⟨blkFars⟩, ⟨belowNow⟩⟩
            ·rw [if_neg c31] at H
             have c31b0 : decide (((rd_T70 l0_2 x5_1).f3) ≤ ((rd_T70 l0_2 x19_1).f3)) = false := decide_eq_false c31
             clear c31
             have H' := Aside0.mk H
             clear H
             have p108 : 0 ≤ (x19_1 : Int) := of_decide_eq_true (by first | (with_reducible assumption) | assumption)
             have q108 : x19_1 < (l0_2.length : Int) := of_decide_eq_true (by first | (with_reducible assumption) | assumption)
             obtain ⟨ad108, e108, hx108_0, hx108_1, hx108_2, hx108_3⟩ := at_T70 HR0_2.out x19_1 p108 q108
             cases e108
             replace hx108_0 := (HB.out.cell (World.block_lt_of_cell? w _ hx108_0)).trans hx108_0
             replace hx108_1 := (HB.out.cell (World.block_lt_of_cell? w _ hx108_1)).trans hx108_1
             replace hx108_2 := (HB.out.cell (World.block_lt_of_cell? w _ hx108_2)).trans hx108_2
             replace hx108_3 := (HB.out.cell (World.block_lt_of_cell? w _ hx108_3)).trans hx108_3
             replace p108 := eq_true p108
             replace q108 := eq_true q108
             go_wp2_with (first | ((with_reducible refine gate_dst (N := 8) rfl ?_); refine box_event ?hg (N := 8) ?hd (cs := #[.int .i64 0, .int .i64 0, .int .i64 0, .int .i64 0]) (t := 70) ?hr ?_; (case hd => rfl); (case hg => rfl); (case hr => first | (go_simp; done) | (go_simp; rfl)); intro gb109 hg w46 hbox hb; have n0_ := Aside0.mk (blkStep (g := gb106) hb); have n1_ := Aside0.mk (blkStep (g := gb107) hb); have n2_ := Aside0.mk (below_step belowNow hb); have n3_ := Aside0.mk (hbox); have n4_ := Aside0.mk ((by rw [hg]; exact (below_size belowNow) : w.heap.size ≤ gb109)); have n5_ := n4_; have n6_ := Aside0.mk ((by rw [hg]; exact Nat.ne_of_lt (blkLt (g := gb106)) : gb106 ≠ gb109)); have n7_ := Aside0.mk ((by rw [hg]; exact Nat.ne_of_gt (blkLt (g := gb106)) : gb109 ≠ gb106)); have n8_ := Aside0.mk ((by rw [hg]; exact Nat.ne_of_lt (blkLt (g := gb107)) : gb107 ≠ gb109)); have n9_ := Aside0.mk ((by rw [hg]; exact Nat.ne_of_gt (blkLt (g := gb107)) : gb109 ≠ gb107)); clear BK106; clear BK107; clear HB; have BK106 := n0_; have BK107 := n1_; have HB := n2_; have BK109 := n3_; have GW109 := n4_; have GE109 := n5_; have NB106_109 := n6_; have NB109_106 := n7_; have NB107_109 := n8_; have NB109_107 := n9_; clear n0_ n1_ n2_ n3_ n4_ n5_ n6_ n7_ n8_ n9_; clear hb hbox hg; have hnb47 := NB109_106.out; have hnc47 := NB106_109.out; have hnb48 := NB109_107.out; have hnc48 := NB107_109.out; have hcz49_0 : w46.cell? ⟨gb109, 0, none⟩ = some (.int .i64 0) := (blk_cell BK109.out 0).trans rfl; have hcz49_1 : w46.cell? ⟨gb109, 1, none⟩ = some (.int .i64 0) := (blk_cell BK109.out 1).trans rfl; have hcz49_2 : w46.cell? ⟨gb109, 2, none⟩ = some (.int .i64 0) := (blk_cell BK109.out 2).trans rfl; have hcz49_3 : w46.cell? ⟨gb109, 3, none⟩ = some (.int .i64 0) := (blk_cell BK109.out 3).trans rfl; have hfz49_0 := blk_frozen BK109.out 0; have hfz49_1 := blk_frozen BK109.out 1; have hfz49_2 := blk_frozen BK109.out 2; have hfz49_3 := blk_frozen BK109.out 3; have hnb50 := NB106_107.out; have hnc50 := NB107_106.out; have hcz51_0 : w46.cell? ⟨gb106, 0, none⟩ = some (.int .i64 a0_0) := (blk_cell BK106.out 0).trans rfl; have hcz51_1 : w46.cell? ⟨gb106, 1, none⟩ = some (.slice A0_1 l0_1.length c0_1) := (blk_cell BK106.out 1).trans rfl; have hcz51_2 : w46.cell? ⟨gb106, 2, none⟩ = some (.slice (some ad108) l0_2.length c0_2) := (blk_cell BK106.out 2).trans rfl; have hcz51_3 : w46.cell? ⟨gb106, 3, none⟩ = some (.int .i64 a0_3) := (blk_cell BK106.out 3).trans rfl; have hfz51_0 := blk_frozen BK106.out 0; have hfz51_1 := blk_frozen BK106.out 1; have hfz51_2 := blk_frozen BK106.out 2; have hfz51_3 := blk_frozen BK106.out 3) | ((with_reducible refine gate_callee (f := 52) rfl ?_); refine goesL_ (some 27) rfl rfl Try.func52 (by kernel_rfl) rfl #[.slice A0_1 l0_1.length c0_1, .func (.func 73) #[] #[.pointer (some ⟨gb107, 0, none⟩), .pointer (some ⟨gb109, 0, none⟩)]] rfl (by (try simp only [List.map_toArray, List.map_cons, List.map_nil]); first | done | rfl | (simp only [List.length_drop, List.length_take]; rfl)) ?_; (with_reducible refine (impl_Desk_next_2.calls _ _ l0_1 ((rd_T70 l0_2 x19_1).f0) ((rd_T70 l0_2 x19_1).f1) ((rd_T70 l0_2 x19_1).f2) ((rd_T70 l0_2 x19_1).f3) true _ ?side1 ?side2 A10.out).mono ?_); (case side1 => exact Kd.C_below HR0_1.out belowNow); (case side2 => exact HC0_1.out); rintro e w52 ⟨rfl, hb⟩; refine ⟨_, rfl, ?_⟩; have n0_ := Aside0.mk (blk_below (g := gb106) (o := .cells #[.int .i64 a0_0, .slice A0_1 l0_1.length c0_1, .slice (some ad108) l0_2.length c0_2, .int .i64 a0_3] 31 (0, 0)) (blkFars) hb); have n1_ := Aside0.mk (blk_below (g := gb107) (o := .cells #[.func (.func 72) #[] #[]] 106 (0, 0)) (blkFars) hb); have n2_ := Aside0.mk (blk_below (g := gb109) (o := .cells #[.int .i64 ((rd_T70 l0_2 x19_1).f0), .int .i64 ((rd_T70 l0_2 x19_1).f1), .int .i64 ((rd_T70 l0_2 x19_1).f2), .int .i64 ((rd_T70 l0_2 x19_1).f3)] 70 (0, 0)) (by (with_reducible repeat (first | refine blk_drewN ?_ _ | refine blk_drew ?_ | refine blk_alloc ?_ _)); refine blk_put (cs := #[.int .i64 ((rd_T70 l0_2 x19_1).f0), .int .i64 ((rd_T70 l0_2 x19_1).f1), .int .i64 ((rd_T70 l0_2 x19_1).f2), .int .i64 0]) ?_ 3 _ rfl; (with_reducible repeat (first | refine blk_drewN ?_ _ | refine blk_drew ?_ | refine blk_alloc ?_ _)); refine blk_put (cs := #[.int .i64 ((rd_T70 l0_2 x19_1).f0), .int .i64 ((rd_T70 l0_2 x19_1).f1), .int .i64 0, .int .i64 0]) ?_ 2 _ rfl; (with_reducible repeat (first | refine blk_drewN ?_ _ | refine blk_drew ?_ | refine blk_alloc ?_ _)); refine blk_put (cs := #[.int .i64 ((rd_T70 l0_2 x19_1).f0), .int .i64 0, .int .i64 0, .int .i64 0]) ?_ 1 _ rfl; (with_reducible repeat (first | refine blk_drewN ?_ _ | refine blk_drew ?_ | refine blk_alloc ?_ _)); refine blk_put (cs := #[.int .i64 0, .int .i64 0, .int .i64 0, .int .i64 0]) ?_ 0 _ rfl; (with_reducible repeat (first | refine blk_drewN ?_ _ | refine blk_drew ?_ | refine blk_alloc ?_ _)); exact BK109.out) hb); have n3_ := Aside0.mk (below_step belowNow hb); clear BK106; clear BK107; clear BK109; clear HB; have BK106 := n0_; have BK107 := n1_; have BK109 := n2_; have HB := n3_; clear n0_ n1_ n2_ n3_; (try clear hb); (try clear hb2); (try clear hk); (try clear hi); have hcz53_0 : w52.cell? ⟨gb106, 0, none⟩ = some (.int .i64 a0_0) := (blk_cell BK106.out 0).trans rfl; have hcz53_1 : w52.cell? ⟨gb106, 1, none⟩ = some (.slice A0_1 l0_1.length c0_1) := (blk_cell BK106.out 1).trans rfl; have hcz53_2 : w52.cell? ⟨gb106, 2, none⟩ = some (.slice (some ad108) l0_2.length c0_2) := (blk_cell BK106.out 2).trans rfl; have hcz53_3 : w52.cell? ⟨gb106, 3, none⟩ = some (.int .i64 a0_3) := (blk_cell BK106.out 3).trans rfl; have hfz53_0 := blk_frozen BK106.out 0; have hfz53_1 := blk_frozen BK106.out 1; have hfz53_2 := blk_frozen BK106.out 2; have hfz53_3 := blk_frozen BK106.out 3; have p111 : 0 ≤ (x5_1 : Int) := of_decide_eq_true (by first | (with_reducible assumption) | assumption); have q111 : x5_1 < (l0_2.length : Int) := of_decide_eq_true (by first | (with_reducible assumption) | assumption); obtain ⟨ad111, e111, hx111_0, hx111_1, hx111_2, hx111_3⟩ := at_T70 HR0_2.out x5_1 p111 q111; obtain rfl : ad108 = ad111 := (by injection e111); replace hx111_0 := (HB.out.cell (World.block_lt_of_cell? w _ hx111_0)).trans hx111_0; replace hx111_1 := (HB.out.cell (World.block_lt_of_cell? w _ hx111_1)).trans hx111_1; replace hx111_2 := (HB.out.cell (World.block_lt_of_cell? w _ hx111_2)).trans hx111_2; replace hx111_3 := (HB.out.cell (World.block_lt_of_cell? w _ hx111_3)).trans hx111_3; replace p111 := eq_true p111; replace q111 := eq_true q111) | ((with_reducible refine gate_dst (N := 9) rfl ?_); refine box_event ?hg (N := 9) ?hd (cs := #[.int .i64 0, .int .i64 0, .int .i64 0, .int .i64 0]) (t := 70) ?hr ?_; (case hd => rfl); (case hg => rfl); (case hr => first | (go_simp; done) | (go_simp; rfl)); intro gb112 hg w54 hbox hb; have n0_ := Aside0.mk (blkStep (g := gb106) hb); have n1_ := Aside0.mk (blkStep (g := gb107) hb); have n2_ := Aside0.mk (blkStep (g := gb109) hb); have n3_ := Aside0.mk (below_step belowNow hb); have n4_ := Aside0.mk (hbox); have n5_ := Aside0.mk ((by rw [hg]; exact (below_size belowNow) : w.heap.size ≤ gb112)); have n6_ := n5_; have n7_ := Aside0.mk ((by rw [hg]; exact Nat.ne_of_lt (blkLt (g := gb106)) : gb106 ≠ gb112)); have n8_ := Aside0.mk ((by rw [hg]; exact Nat.ne_of_gt (blkLt (g := gb106)) : gb112 ≠ gb106)); have n9_ := Aside0.mk ((by rw [hg]; exact Nat.ne_of_lt (blkLt (g := gb107)) : gb107 ≠ gb112)); have n10_ := Aside0.mk ((by rw [hg]; exact Nat.ne_of_gt (blkLt (g := gb107)) : gb112 ≠ gb107)); have n11_ := Aside0.mk ((by rw [hg]; exact Nat.ne_of_lt (blkLt (g := gb109)) : gb109 ≠ gb112)); have n12_ := Aside0.mk ((by rw [hg]; exact Nat.ne_of_gt (blkLt (g := gb109)) : gb112 ≠ gb109)); clear BK106; clear BK107; clear BK109; clear HB; have BK106 := n0_; have BK107 := n1_; have BK109 := n2_; have HB := n3_; have BK112 := n4_; have GW112 := n5_; have GE112 := n6_; have NB106_112 := n7_; have NB112_106 := n8_; have NB107_112 := n9_; have NB112_107 := n10_; have NB109_112 := n11_; have NB112_109 := n12_; clear n0_ n1_ n2_ n3_ n4_ n5_ n6_ n7_ n8_ n9_ n10_ n11_ n12_; clear hb hbox hg; have hnb55 := NB112_106.out; have hnc55 := NB106_112.out; have hnb56 := NB112_107.out; have hnc56 := NB107_112.out; have hnb57 := NB112_109.out; have hnc57 := NB109_112.out; have hcz58_0 : w54.cell? ⟨gb112, 0, none⟩ = some (.int .i64 0) := (blk_cell BK112.out 0).trans rfl; have hcz58_1 : w54.cell? ⟨gb112, 1, none⟩ = some (.int .i64 0) := (blk_cell BK112.out 1).trans rfl; have hcz58_2 : w54.cell? ⟨gb112, 2, none⟩ = some (.int .i64 0) := (blk_cell BK112.out 2).trans rfl; have hcz58_3 : w54.cell? ⟨gb112, 3, none⟩ = some (.int .i64 0) := (blk_cell BK112.out 3).trans rfl; have hfz58_0 := blk_frozen BK112.out 0; have hfz58_1 := blk_frozen BK112.out 1; have hfz58_2 := blk_frozen BK112.out 2; have hfz58_3 := blk_frozen BK112.out 3; have hcz59_0 : w54.cell? ⟨gb109, 0, none⟩ = some (.int .i64 ((rd_T70 l0_2 x19_1).f0)) := (blk_cell BK109.out 0).trans rfl; have hcz59_1 : w54.cell? ⟨gb109, 1, none⟩ = some (.int .i64 ((rd_T70 l0_2 x19_1).f1)) := (blk_cell BK109.out 1).trans rfl; have hcz59_2 : w54.cell? ⟨gb109, 2, none⟩ = some (.int .i64 ((rd_T70 l0_2 x19_1).f2)) := (blk_cell BK109.out 2).trans rfl; have hcz59_3 : w54.cell? ⟨gb109, 3, none⟩ = some (.int .i64 ((rd_T70 l0_2 x19_1).f3)) := (blk_cell BK109.out 3).trans rfl; have hfz59_0 := blk_frozen BK109.out 0; have hfz59_1 := blk_frozen BK109.out 1; have hfz59_2 := blk_frozen BK109.out 2; have hfz59_3 := blk_frozen BK109.out 3))
             go_roundg k1
             case measure => have := HK1.out; omega
             case rel => exact ⟨(x19_1), (wrap64 (x19_1 + 1)), (by first | rfl | (simp; done) | (simp [*]; done)), (by first | rfl | (simp; done) | (simp [*]; done)), H', ⟨by have := HK1.out; omega⟩, ⟨blkFars⟩, ⟨blkFars⟩, ⟨belowNow⟩⟩
           ·rw [if_neg c30] at H
            have c30b0 : (((rd_T70 l0_2 x19_1).f2) == ((rd_T70 l0_2 x5_1).f2)) = false := beq_eq_false_iff_ne.mpr c30
            have c30b1 : (((rd_T70 l0_2 x19_1).f2) != ((rd_T70 l0_2 x5_1).f2)) = true := bne_iff_ne.mpr c30
            have H' := Aside0.mk H
            clear H
            have p108 : 0 ≤ (x19_1 : Int) := of_decide_eq_true (by first | (with_reducible assumption) | assumption)
            have q108 : x19_1 < (l0_2.length : Int) := of_decide_eq_true (by first | (with_reducible assumption) | assumption)
            obtain ⟨ad108, e108, hx108_0, hx108_1, hx108_2, hx108_3⟩ := at_T70 HR0_2.out x19_1 p108 q108
            cases e108
            replace hx108_0 := (HB.out.cell (World.block_lt_of_cell? w _ hx108_0)).trans hx108_0
            replace hx108_1 := (HB.out.cell (World.block_lt_of_cell? w _ hx108_1)).trans hx108_1
            replace hx108_2 := (HB.out.cell (World.block_lt_of_cell? w _ hx108_2)).trans hx108_2
            replace hx108_3 := (HB.out.cell (World.block_lt_of_cell? w _ hx108_3)).trans hx108_3
            replace p108 := eq_true p108
            replace q108 := eq_true q108
            go_wp2_with (first | ((with_reducible refine gate_dst (N := 8) rfl ?_); refine box_event ?hg (N := 8) ?hd (cs := #[.int .i64 0, .int .i64 0, .int .i64 0, .int .i64 0]) (t := 70) ?hr ?_; (case hd => rfl); (case hg => rfl); (case hr => first | (go_simp; done) | (go_simp; rfl)); intro gb109 hg w60 hbox hb; have n0_ := Aside0.mk (blkStep (g := gb106) hb); have n1_ := Aside0.mk (blkStep (g := gb107) hb); have n2_ := Aside0.mk (below_step belowNow hb); have n3_ := Aside0.mk (hbox); have n4_ := Aside0.mk ((by rw [hg]; exact (below_size belowNow) : w.heap.size ≤ gb109)); have n5_ := n4_; have n6_ := Aside0.mk ((by rw [hg]; exact Nat.ne_of_lt (blkLt (g := gb106)) : gb106 ≠ gb109)); have n7_ := Aside0.mk ((by rw [hg]; exact Nat.ne_of_gt (blkLt (g := gb106)) : gb109 ≠ gb106)); have n8_ := Aside0.mk ((by rw [hg]; exact Nat.ne_of_lt (blkLt (g := gb107)) : gb107 ≠ gb109)); have n9_ := Aside0.mk ((by rw [hg]; exact Nat.ne_of_gt (blkLt (g := gb107)) : gb109 ≠ gb107)); clear BK106; clear BK107; clear HB; have BK106 := n0_; have BK107 := n1_; have HB := n2_; have BK109 := n3_; have GW109 := n4_; have GE109 := n5_; have NB106_109 := n6_; have NB109_106 := n7_; have NB107_109 := n8_; have NB109_107 := n9_; clear n0_ n1_ n2_ n3_ n4_ n5_ n6_ n7_ n8_ n9_; clear hb hbox hg; have hnb61 := NB109_106.out; have hnc61 := NB106_109.out; have hnb62 := NB109_107.out; have hnc62 := NB107_109.out; have hcz63_0 : w60.cell? ⟨gb109, 0, none⟩ = some (.int .i64 0) := (blk_cell BK109.out 0).trans rfl; have hcz63_1 : w60.cell? ⟨gb109, 1, none⟩ = some (.int .i64 0) := (blk_cell BK109.out 1).trans rfl; have hcz63_2 : w60.cell? ⟨gb109, 2, none⟩ = some (.int .i64 0) := (blk_cell BK109.out 2).trans rfl; have hcz63_3 : w60.cell? ⟨gb109, 3, none⟩ = some (.int .i64 0) := (blk_cell BK109.out 3).trans rfl; have hfz63_0 := blk_frozen BK109.out 0; have hfz63_1 := blk_frozen BK109.out 1; have hfz63_2 := blk_frozen BK109.out 2; have hfz63_3 := blk_frozen BK109.out 3; have hnb64 := NB106_107.out; have hnc64 := NB107_106.out; have hcz65_0 : w60.cell? ⟨gb106, 0, none⟩ = some (.int .i64 a0_0) := (blk_cell BK106.out 0).trans rfl; have hcz65_1 : w60.cell? ⟨gb106, 1, none⟩ = some (.slice A0_1 l0_1.length c0_1) := (blk_cell BK106.out 1).trans rfl; have hcz65_2 : w60.cell? ⟨gb106, 2, none⟩ = some (.slice (some ad108) l0_2.length c0_2) := (blk_cell BK106.out 2).trans rfl; have hcz65_3 : w60.cell? ⟨gb106, 3, none⟩ = some (.int .i64 a0_3) := (blk_cell BK106.out 3).trans rfl; have hfz65_0 := blk_frozen BK106.out 0; have hfz65_1 := blk_frozen BK106.out 1; have hfz65_2 := blk_frozen BK106.out 2; have hfz65_3 := blk_frozen BK106.out 3) | ((with_reducible refine gate_callee (f := 52) rfl ?_); refine goesL_ (some 27) rfl rfl Try.func52 (by kernel_rfl) rfl #[.slice A0_1 l0_1.length c0_1, .func (.func 73) #[] #[.pointer (some ⟨gb107, 0, none⟩), .pointer (some ⟨gb109, 0, none⟩)]] rfl (by (try simp only [List.map_toArray, List.map_cons, List.map_nil]); first | done | rfl | (simp only [List.length_drop, List.length_take]; rfl)) ?_; (with_reducible refine (impl_Desk_next_2.calls _ _ l0_1 ((rd_T70 l0_2 x19_1).f0) ((rd_T70 l0_2 x19_1).f1) ((rd_T70 l0_2 x19_1).f2) ((rd_T70 l0_2 x19_1).f3) true _ ?side1 ?side2 A10.out).mono ?_); (case side1 => exact Kd.C_below HR0_1.out belowNow); (case side2 => exact HC0_1.out); rintro e w66 ⟨rfl, hb⟩; refine ⟨_, rfl, ?_⟩; have n0_ := Aside0.mk (blk_below (g := gb106) (o := .cells #[.int .i64 a0_0, .slice A0_1 l0_1.length c0_1, .slice (some ad108) l0_2.length c0_2, .int .i64 a0_3] 31 (0, 0)) (blkFars) hb); have n1_ := Aside0.mk (blk_below (g := gb107) (o := .cells #[.func (.func 72) #[] #[]] 106 (0, 0)) (blkFars) hb); have n2_ := Aside0.mk (blk_below (g := gb109) (o := .cells #[.int .i64 ((rd_T70 l0_2 x19_1).f0), .int .i64 ((rd_T70 l0_2 x19_1).f1), .int .i64 ((rd_T70 l0_2 x19_1).f2), .int .i64 ((rd_T70 l0_2 x19_1).f3)] 70 (0, 0)) (by (with_reducible repeat (first | refine blk_drewN ?_ _ | refine blk_drew ?_ | refine blk_alloc ?_ _)); refine blk_put (cs := #[.int .i64 ((rd_T70 l0_2 x19_1).f0), .int .i64 ((rd_T70 l0_2 x19_1).f1), .int .i64 ((rd_T70 l0_2 x19_1).f2), .int .i64 0]) ?_ 3 _ rfl; (with_reducible repeat (first | refine blk_drewN ?_ _ | refine blk_drew ?_ | refine blk_alloc ?_ _)); refine blk_put (cs := #[.int .i64 ((rd_T70 l0_2 x19_1).f0), .int .i64 ((rd_T70 l0_2 x19_1).f1), .int .i64 0, .int .i64 0]) ?_ 2 _ rfl; (with_reducible repeat (first | refine blk_drewN ?_ _ | refine blk_drew ?_ | refine blk_alloc ?_ _)); refine blk_put (cs := #[.int .i64 ((rd_T70 l0_2 x19_1).f0), .int .i64 0, .int .i64 0, .int .i64 0]) ?_ 1 _ rfl; (with_reducible repeat (first | refine blk_drewN ?_ _ | refine blk_drew ?_ | refine blk_alloc ?_ _)); refine blk_put (cs := #[.int .i64 0, .int .i64 0, .int .i64 0, .int .i64 0]) ?_ 0 _ rfl; (with_reducible repeat (first | refine blk_drewN ?_ _ | refine blk_drew ?_ | refine blk_alloc ?_ _)); exact BK109.out) hb); have n3_ := Aside0.mk (below_step belowNow hb); clear BK106; clear BK107; clear BK109; clear HB; have BK106 := n0_; have BK107 := n1_; have BK109 := n2_; have HB := n3_; clear n0_ n1_ n2_ n3_; (try clear hb); (try clear hb2); (try clear hk); (try clear hi); have hcz67_0 : w66.cell? ⟨gb106, 0, none⟩ = some (.int .i64 a0_0) := (blk_cell BK106.out 0).trans rfl; have hcz67_1 : w66.cell? ⟨gb106, 1, none⟩ = some (.slice A0_1 l0_1.length c0_1) := (blk_cell BK106.out 1).trans rfl; have hcz67_2 : w66.cell? ⟨gb106, 2, none⟩ = some (.slice (some ad108) l0_2.length c0_2) := (blk_cell BK106.out 2).trans rfl; have hcz67_3 : w66.cell? ⟨gb106, 3, none⟩ = some (.int .i64 a0_3) := (blk_cell BK106.out 3).trans rfl; have hfz67_0 := blk_frozen BK106.out 0; have hfz67_1 := blk_frozen BK106.out 1; have hfz67_2 := blk_frozen BK106.out 2; have hfz67_3 := blk_frozen BK106.out 3; have p111 : 0 ≤ (x5_1 : Int) := of_decide_eq_true (by first | (with_reducible assumption) | assumption); have q111 : x5_1 < (l0_2.length : Int) := of_decide_eq_true (by first | (with_reducible assumption) | assumption); obtain ⟨ad111, e111, hx111_0, hx111_1, hx111_2, hx111_3⟩ := at_T70 HR0_2.out x5_1 p111 q111; obtain rfl : ad108 = ad111 := (by injection e111); replace hx111_0 := (HB.out.cell (World.block_lt_of_cell? w _ hx111_0)).trans hx111_0; replace hx111_1 := (HB.out.cell (World.block_lt_of_cell? w _ hx111_1)).trans hx111_1; replace hx111_2 := (HB.out.cell (World.block_lt_of_cell? w _ hx111_2)).trans hx111_2; replace hx111_3 := (HB.out.cell (World.block_lt_of_cell? w _ hx111_3)).trans hx111_3; replace p111 := eq_true p111; replace q111 := eq_true q111) | ((with_reducible refine gate_dst (N := 9) rfl ?_); refine box_event ?hg (N := 9) ?hd (cs := #[.int .i64 0, .int .i64 0, .int .i64 0, .int .i64 0]) (t := 70) ?hr ?_; (case hd => rfl); (case hg => rfl); (case hr => first | (go_simp; done) | (go_simp; rfl)); intro gb112 hg w68 hbox hb; have n0_ := Aside0.mk (blkStep (g := gb106) hb); have n1_ := Aside0.mk (blkStep (g := gb107) hb); have n2_ := Aside0.mk (blkStep (g := gb109) hb); have n3_ := Aside0.mk (below_step belowNow hb); have n4_ := Aside0.mk (hbox); have n5_ := Aside0.mk ((by rw [hg]; exact (below_size belowNow) : w.heap.size ≤ gb112)); have n6_ := n5_; have n7_ := Aside0.mk ((by rw [hg]; exact Nat.ne_of_lt (blkLt (g := gb106)) : gb106 ≠ gb112)); have n8_ := Aside0.mk ((by rw [hg]; exact Nat.ne_of_gt (blkLt (g := gb106)) : gb112 ≠ gb106)); have n9_ := Aside0.mk ((by rw [hg]; exact Nat.ne_of_lt (blkLt (g := gb107)) : gb107 ≠ gb112)); have n10_ := Aside0.mk ((by rw [hg]; exact Nat.ne_of_gt (blkLt (g := gb107)) : gb112 ≠ gb107)); have n11_ := Aside0.mk ((by rw [hg]; exact Nat.ne_of_lt (blkLt (g := gb109)) : gb109 ≠ gb112)); have n12_ := Aside0.mk ((by rw [hg]; exact Nat.ne_of_gt (blkLt (g := gb109)) : gb112 ≠ gb109)); clear BK106; clear BK107; clear BK109; clear HB; have BK106 := n0_; have BK107 := n1_; have BK109 := n2_; have HB := n3_; have BK112 := n4_; have GW112 := n5_; have GE112 := n6_; have NB106_112 := n7_; have NB112_106 := n8_; have NB107_112 := n9_; have NB112_107 := n10_; have NB109_112 := n11_; have NB112_109 := n12_; clear n0_ n1_ n2_ n3_ n4_ n5_ n6_ n7_ n8_ n9_ n10_ n11_ n12_; clear hb hbox hg; have hnb69 := NB112_106.out; have hnc69 := NB106_112.out; have hnb70 := NB112_107.out; have hnc70 := NB107_112.out; have hnb71 := NB112_109.out; have hnc71 := NB109_112.out; have hcz72_0 : w68.cell? ⟨gb112, 0, none⟩ = some (.int .i64 0) := (blk_cell BK112.out 0).trans rfl; have hcz72_1 : w68.cell? ⟨gb112, 1, none⟩ = some (.int .i64 0) := (blk_cell BK112.out 1).trans rfl; have hcz72_2 : w68.cell? ⟨gb112, 2, none⟩ = some (.int .i64 0) := (blk_cell BK112.out 2).trans rfl; have hcz72_3 : w68.cell? ⟨gb112, 3, none⟩ = some (.int .i64 0) := (blk_cell BK112.out 3).trans rfl; have hfz72_0 := blk_frozen BK112.out 0; have hfz72_1 := blk_frozen BK112.out 1; have hfz72_2 := blk_frozen BK112.out 2; have hfz72_3 := blk_frozen BK112.out 3; have hcz73_0 : w68.cell? ⟨gb109, 0, none⟩ = some (.int .i64 ((rd_T70 l0_2 x19_1).f0)) := (blk_cell BK109.out 0).trans rfl; have hcz73_1 : w68.cell? ⟨gb109, 1, none⟩ = some (.int .i64 ((rd_T70 l0_2 x19_1).f1)) := (blk_cell BK109.out 1).trans rfl; have hcz73_2 : w68.cell? ⟨gb109, 2, none⟩ = some (.int .i64 ((rd_T70 l0_2 x19_1).f2)) := (blk_cell BK109.out 2).trans rfl; have hcz73_3 : w68.cell? ⟨gb109, 3, none⟩ = some (.int .i64 ((rd_T70 l0_2 x19_1).f3)) := (blk_cell BK109.out 3).trans rfl; have hfz73_0 := blk_frozen BK109.out 0; have hfz73_1 := blk_frozen BK109.out 1; have hfz73_2 := blk_frozen BK109.out 2; have hfz73_3 := blk_frozen BK109.out 3))
            go_roundg k1
            case measure => have := HK1.out; omega
            case rel => exact ⟨(x19_1), (wrap64 (x19_1 + 1)), (by first | rfl | (simp; done) | (simp [*]; done)), (by first | rfl | (simp; done) | (simp [*]; done)), H', ⟨by have := HK1.out; omega⟩, ⟨blkFars⟩, ⟨blkFars⟩, ⟨belowNow⟩⟩
         ·rw [if_neg c14] at H
          exact absurd H (by simp)
        ·rw [if_neg c13] at H
         exact absurd H (by simp)
       ·rw [if_neg c12] at H
        have c12b0 : decide (0 ≤ x5_1) = false := decide_eq_false c12
        clear c12
        have H' := Aside0.mk H
        clear H
        have p108 : 0 ≤ (x19_1 : Int) := of_decide_eq_true (by first | (with_reducible assumption) | assumption)
        have q108 : x19_1 < (l0_2.length : Int) := of_decide_eq_true (by first | (with_reducible assumption) | assumption)
        obtain ⟨ad108, e108, hx108_0, hx108_1, hx108_2, hx108_3⟩ := at_T70 HR0_2.out x19_1 p108 q108
        cases e108
        replace hx108_0 := (HB.out.cell (World.block_lt_of_cell? w _ hx108_0)).trans hx108_0
        replace hx108_1 := (HB.out.cell (World.block_lt_of_cell? w _ hx108_1)).trans hx108_1
        replace hx108_2 := (HB.out.cell (World.block_lt_of_cell? w _ hx108_2)).trans hx108_2
        replace hx108_3 := (HB.out.cell (World.block_lt_of_cell? w _ hx108_3)).trans hx108_3
        replace p108 := eq_true p108
        replace q108 := eq_true q108
        go_wp2_with (first | ((with_reducible refine gate_dst (N := 8) rfl ?_); refine box_event ?hg (N := 8) ?hd (cs := #[.int .i64 0, .int .i64 0, .int .i64 0, .int .i64 0]) (t := 70) ?hr ?_; (case hd => rfl); (case hg => rfl); (case hr => first | (go_simp; done) | (go_simp; rfl)); intro gb109 hg w74 hbox hb; have n0_ := Aside0.mk (blkStep (g := gb106) hb); have n1_ := Aside0.mk (blkStep (g := gb107) hb); have n2_ := Aside0.mk (below_step belowNow hb); have n3_ := Aside0.mk (hbox); have n4_ := Aside0.mk ((by rw [hg]; exact (below_size belowNow) : w.heap.size ≤ gb109)); have n5_ := n4_; have n6_ := Aside0.mk ((by rw [hg]; exact Nat.ne_of_lt (blkLt (g := gb106)) : gb106 ≠ gb109)); have n7_ := Aside0.mk ((by rw [hg]; exact Nat.ne_of_gt (blkLt (g := gb106)) : gb109 ≠ gb106)); have n8_ := Aside0.mk ((by rw [hg]; exact Nat.ne_of_lt (blkLt (g := gb107)) : gb107 ≠ gb109)); have n9_ := Aside0.mk ((by rw [hg]; exact Nat.ne_of_gt (blkLt (g := gb107)) : gb109 ≠ gb107)); clear BK106; clear BK107; clear HB; have BK106 := n0_; have BK107 := n1_; have HB := n2_; have BK109 := n3_; have GW109 := n4_; have GE109 := n5_; have NB106_109 := n6_; have NB109_106 := n7_; have NB107_109 := n8_; have NB109_107 := n9_; clear n0_ n1_ n2_ n3_ n4_ n5_ n6_ n7_ n8_ n9_; clear hb hbox hg; have hnb75 := NB109_106.out; have hnc75 := NB106_109.out; have hnb76 := NB109_107.out; have hnc76 := NB107_109.out; have hcz77_0 : w74.cell? ⟨gb109, 0, none⟩ = some (.int .i64 0) := (blk_cell BK109.out 0).trans rfl; have hcz77_1 : w74.cell? ⟨gb109, 1, none⟩ = some (.int .i64 0) := (blk_cell BK109.out 1).trans rfl; have hcz77_2 : w74.cell? ⟨gb109, 2, none⟩ = some (.int .i64 0) := (blk_cell BK109.out 2).trans rfl; have hcz77_3 : w74.cell? ⟨gb109, 3, none⟩ = some (.int .i64 0) := (blk_cell BK109.out 3).trans rfl; have hfz77_0 := blk_frozen BK109.out 0; have hfz77_1 := blk_frozen BK109.out 1; have hfz77_2 := blk_frozen BK109.out 2; have hfz77_3 := blk_frozen BK109.out 3; have hnb78 := NB106_107.out; have hnc78 := NB107_106.out; have hcz79_0 : w74.cell? ⟨gb106, 0, none⟩ = some (.int .i64 a0_0) := (blk_cell BK106.out 0).trans rfl; have hcz79_1 : w74.cell? ⟨gb106, 1, none⟩ = some (.slice A0_1 l0_1.length c0_1) := (blk_cell BK106.out 1).trans rfl; have hcz79_2 : w74.cell? ⟨gb106, 2, none⟩ = some (.slice (some ad108) l0_2.length c0_2) := (blk_cell BK106.out 2).trans rfl; have hcz79_3 : w74.cell? ⟨gb106, 3, none⟩ = some (.int .i64 a0_3) := (blk_cell BK106.out 3).trans rfl; have hfz79_0 := blk_frozen BK106.out 0; have hfz79_1 := blk_frozen BK106.out 1; have hfz79_2 := blk_frozen BK106.out 2; have hfz79_3 := blk_frozen BK106.out 3) | ((with_reducible refine gate_callee (f := 52) rfl ?_); refine goesL_ (some 27) rfl rfl Try.func52 (by kernel_rfl) rfl #[.slice A0_1 l0_1.length c0_1, .func (.func 73) #[] #[.pointer (some ⟨gb107, 0, none⟩), .pointer (some ⟨gb109, 0, none⟩)]] rfl (by (try simp only [List.map_toArray, List.map_cons, List.map_nil]); first | done | rfl | (simp only [List.length_drop, List.length_take]; rfl)) ?_; (with_reducible refine (impl_Desk_next_2.calls _ _ l0_1 ((rd_T70 l0_2 x19_1).f0) ((rd_T70 l0_2 x19_1).f1) ((rd_T70 l0_2 x19_1).f2) ((rd_T70 l0_2 x19_1).f3) true _ ?side1 ?side2 A10.out).mono ?_); (case side1 => exact Kd.C_below HR0_1.out belowNow); (case side2 => exact HC0_1.out); rintro e w80 ⟨rfl, hb⟩; refine ⟨_, rfl, ?_⟩; have n0_ := Aside0.mk (blk_below (g := gb106) (o := .cells #[.int .i64 a0_0, .slice A0_1 l0_1.length c0_1, .slice (some ad108) l0_2.length c0_2, .int .i64 a0_3] 31 (0, 0)) (blkFars) hb); have n1_ := Aside0.mk (blk_below (g := gb107) (o := .cells #[.func (.func 72) #[] #[]] 106 (0, 0)) (blkFars) hb); have n2_ := Aside0.mk (blk_below (g := gb109) (o := .cells #[.int .i64 ((rd_T70 l0_2 x19_1).f0), .int .i64 ((rd_T70 l0_2 x19_1).f1), .int .i64 ((rd_T70 l0_2 x19_1).f2), .int .i64 ((rd_T70 l0_2 x19_1).f3)] 70 (0, 0)) (by (with_reducible repeat (first | refine blk_drewN ?_ _ | refine blk_drew ?_ | refine blk_alloc ?_ _)); refine blk_put (cs := #[.int .i64 ((rd_T70 l0_2 x19_1).f0), .int .i64 ((rd_T70 l0_2 x19_1).f1), .int .i64 ((rd_T70 l0_2 x19_1).f2), .int .i64 0]) ?_ 3 _ rfl; (with_reducible repeat (first | refine blk_drewN ?_ _ | refine blk_drew ?_ | refine blk_alloc ?_ _)); refine blk_put (cs := #[.int .i64 ((rd_T70 l0_2 x19_1).f0), .int .i64 ((rd_T70 l0_2 x19_1).f1), .int .i64 0, .int .i64 0]) ?_ 2 _ rfl; (with_reducible repeat (first | refine blk_drewN ?_ _ | refine blk_drew ?_ | refine blk_alloc ?_ _)); refine blk_put (cs := #[.int .i64 ((rd_T70 l0_2 x19_1).f0), .int .i64 0, .int .i64 0, .int .i64 0]) ?_ 1 _ rfl; (with_reducible repeat (first | refine blk_drewN ?_ _ | refine blk_drew ?_ | refine blk_alloc ?_ _)); refine blk_put (cs := #[.int .i64 0, .int .i64 0, .int .i64 0, .int .i64 0]) ?_ 0 _ rfl; (with_reducible repeat (first | refine blk_drewN ?_ _ | refine blk_drew ?_ | refine blk_alloc ?_ _)); exact BK109.out) hb); have n3_ := Aside0.mk (below_step belowNow hb); clear BK106; clear BK107; clear BK109; clear HB; have BK106 := n0_; have BK107 := n1_; have BK109 := n2_; have HB := n3_; clear n0_ n1_ n2_ n3_; (try clear hb); (try clear hb2); (try clear hk); (try clear hi)))
        go_roundg k1
        case measure => have := HK1.out; omega
        case rel => exact ⟨(x19_1), (wrap64 (x19_1 + 1)), (by first | rfl | (simp; done) | (simp [*]; done)), (by first | rfl | (simp; done) | (simp [*]; done)), H', ⟨by have := HK1.out; omega⟩, ⟨by (with_reducible repeat (first | refine blk_drewN ?_ _ | refine blk_drew ?_ | refine blk_alloc ?_ _)); exact BK106.out⟩, ⟨by (with_reducible repeat (first | refine blk_drewN ?_ _ | refine blk_drew ?_ | refine blk_alloc ?_ _)); exact BK107.out⟩, ⟨belowNow⟩⟩
      ·replace c11 := Bool.eq_false_iff.mpr c11
       subst c11
       have H1 : (impl_Desk_next.l0 k1 x5_1 l0_2 (l0_2.length : Int) (wrap64 (x19_1 + 1)) a0_0 l0_1 l0_2 a0_3) = some (r1, r2, r3) := by rw [if_neg (show ¬ (false = true) by decide)] at H; exact H
       clear H
       have H := H1
       clear H1
       have H' := Aside0.mk H
       clear H
       have p108 : 0 ≤ (x19_1 : Int) := of_decide_eq_true (by first | (with_reducible assumption) | assumption)
       have q108 : x19_1 < (l0_2.length : Int) := of_decide_eq_true (by first | (with_reducible assumption) | assumption)
       obtain ⟨ad108, e108, hx108_0, hx108_1, hx108_2, hx108_3⟩ := at_T70 HR0_2.out x19_1 p108 q108
       cases e108
       replace hx108_0 := (HB.out.cell (World.block_lt_of_cell? w _ hx108_0)).trans hx108_0
       replace hx108_1 := (HB.out.cell (World.block_lt_of_cell? w _ hx108_1)).trans hx108_1
       replace hx108_2 := (HB.out.cell (World.block_lt_of_cell? w _ hx108_2)).trans hx108_2
       replace hx108_3 := (HB.out.cell (World.block_lt_of_cell? w _ hx108_3)).trans hx108_3
       replace p108 := eq_true p108
       replace q108 := eq_true q108
       go_wp2_with (first | ((with_reducible refine gate_dst (N := 8) rfl ?_); refine box_event ?hg (N := 8) ?hd (cs := #[.int .i64 0, .int .i64 0, .int .i64 0, .int .i64 0]) (t := 70) ?hr ?_; (case hd => rfl); (case hg => rfl); (case hr => first | (go_simp; done) | (go_simp; rfl)); intro gb109 hg w81 hbox hb; have n0_ := Aside0.mk (blkStep (g := gb106) hb); have n1_ := Aside0.mk (blkStep (g := gb107) hb); have n2_ := Aside0.mk (below_step belowNow hb); have n3_ := Aside0.mk (hbox); have n4_ := Aside0.mk ((by rw [hg]; exact (below_size belowNow) : w.heap.size ≤ gb109)); have n5_ := n4_; have n6_ := Aside0.mk ((by rw [hg]; exact Nat.ne_of_lt (blkLt (g := gb106)) : gb106 ≠ gb109)); have n7_ := Aside0.mk ((by rw [hg]; exact Nat.ne_of_gt (blkLt (g := gb106)) : gb109 ≠ gb106)); have n8_ := Aside0.mk ((by rw [hg]; exact Nat.ne_of_lt (blkLt (g := gb107)) : gb107 ≠ gb109)); have n9_ := Aside0.mk ((by rw [hg]; exact Nat.ne_of_gt (blkLt (g := gb107)) : gb109 ≠ gb107)); clear BK106; clear BK107; clear HB; have BK106 := n0_; have BK107 := n1_; have HB := n2_; have BK109 := n3_; have GW109 := n4_; have GE109 := n5_; have NB106_109 := n6_; have NB109_106 := n7_; have NB107_109 := n8_; have NB109_107 := n9_; clear n0_ n1_ n2_ n3_ n4_ n5_ n6_ n7_ n8_ n9_; clear hb hbox hg; have hnb82 := NB109_106.out; have hnc82 := NB106_109.out; have hnb83 := NB109_107.out; have hnc83 := NB107_109.out; have hcz84_0 : w81.cell? ⟨gb109, 0, none⟩ = some (.int .i64 0) := (blk_cell BK109.out 0).trans rfl; have hcz84_1 : w81.cell? ⟨gb109, 1, none⟩ = some (.int .i64 0) := (blk_cell BK109.out 1).trans rfl; have hcz84_2 : w81.cell? ⟨gb109, 2, none⟩ = some (.int .i64 0) := (blk_cell BK109.out 2).trans rfl; have hcz84_3 : w81.cell? ⟨gb109, 3, none⟩ = some (.int .i64 0) := (blk_cell BK109.out 3).trans rfl; have hfz84_0 := blk_frozen BK109.out 0; have hfz84_1 := blk_frozen BK109.out 1; have hfz84_2 := blk_frozen BK109.out 2; have hfz84_3 := blk_frozen BK109.out 3; have hnb85 := NB106_107.out; have hnc85 := NB107_106.out; have hcz86_0 : w81.cell? ⟨gb106, 0, none⟩ = some (.int .i64 a0_0) := (blk_cell BK106.out 0).trans rfl; have hcz86_1 : w81.cell? ⟨gb106, 1, none⟩ = some (.slice A0_1 l0_1.length c0_1) := (blk_cell BK106.out 1).trans rfl; have hcz86_2 : w81.cell? ⟨gb106, 2, none⟩ = some (.slice (some ad108) l0_2.length c0_2) := (blk_cell BK106.out 2).trans rfl; have hcz86_3 : w81.cell? ⟨gb106, 3, none⟩ = some (.int .i64 a0_3) := (blk_cell BK106.out 3).trans rfl; have hfz86_0 := blk_frozen BK106.out 0; have hfz86_1 := blk_frozen BK106.out 1; have hfz86_2 := blk_frozen BK106.out 2; have hfz86_3 := blk_frozen BK106.out 3) | ((with_reducible refine gate_callee (f := 52) rfl ?_); refine goesL_ (some 27) rfl rfl Try.func52 (by kernel_rfl) rfl #[.slice A0_1 l0_1.length c0_1, .func (.func 73) #[] #[.pointer (some ⟨gb107, 0, none⟩), .pointer (some ⟨gb109, 0, none⟩)]] rfl (by (try simp only [List.map_toArray, List.map_cons, List.map_nil]); first | done | rfl | (simp only [List.length_drop, List.length_take]; rfl)) ?_; (with_reducible refine (impl_Desk_next_2.calls _ _ l0_1 ((rd_T70 l0_2 x19_1).f0) ((rd_T70 l0_2 x19_1).f1) ((rd_T70 l0_2 x19_1).f2) ((rd_T70 l0_2 x19_1).f3) false _ ?side1 ?side2 A10.out).mono ?_); (case side1 => exact Kd.C_below HR0_1.out belowNow); (case side2 => exact HC0_1.out); rintro e w87 ⟨rfl, hb⟩; refine ⟨_, rfl, ?_⟩; have n0_ := Aside0.mk (blk_below (g := gb106) (o := .cells #[.int .i64 a0_0, .slice A0_1 l0_1.length c0_1, .slice (some ad108) l0_2.length c0_2, .int .i64 a0_3] 31 (0, 0)) (blkFars) hb); have n1_ := Aside0.mk (blk_below (g := gb107) (o := .cells #[.func (.func 72) #[] #[]] 106 (0, 0)) (blkFars) hb); have n2_ := Aside0.mk (blk_below (g := gb109) (o := .cells #[.int .i64 ((rd_T70 l0_2 x19_1).f0), .int .i64 ((rd_T70 l0_2 x19_1).f1), .int .i64 ((rd_T70 l0_2 x19_1).f2), .int .i64 ((rd_T70 l0_2 x19_1).f3)] 70 (0, 0)) (by (with_reducible repeat (first | refine blk_drewN ?_ _ | refine blk_drew ?_ | refine blk_alloc ?_ _)); refine blk_put (cs := #[.int .i64 ((rd_T70 l0_2 x19_1).f0), .int .i64 ((rd_T70 l0_2 x19_1).f1), .int .i64 ((rd_T70 l0_2 x19_1).f2), .int .i64 0]) ?_ 3 _ rfl; (with_reducible repeat (first | refine blk_drewN ?_ _ | refine blk_drew ?_ | refine blk_alloc ?_ _)); refine blk_put (cs := #[.int .i64 ((rd_T70 l0_2 x19_1).f0), .int .i64 ((rd_T70 l0_2 x19_1).f1), .int .i64 0, .int .i64 0]) ?_ 2 _ rfl; (with_reducible repeat (first | refine blk_drewN ?_ _ | refine blk_drew ?_ | refine blk_alloc ?_ _)); refine blk_put (cs := #[.int .i64 ((rd_T70 l0_2 x19_1).f0), .int .i64 0, .int .i64 0, .int .i64 0]) ?_ 1 _ rfl; (with_reducible repeat (first | refine blk_drewN ?_ _ | refine blk_drew ?_ | refine blk_alloc ?_ _)); refine blk_put (cs := #[.int .i64 0, .int .i64 0, .int .i64 0, .int .i64 0]) ?_ 0 _ rfl; (with_reducible repeat (first | refine blk_drewN ?_ _ | refine blk_drew ?_ | refine blk_alloc ?_ _)); exact BK109.out) hb); have n3_ := Aside0.mk (below_step belowNow hb); clear BK106; clear BK107; clear BK109; clear HB; have BK106 := n0_; have BK107 := n1_; have BK109 := n2_; have HB := n3_; clear n0_ n1_ n2_ n3_; (try clear hb); (try clear hb2); (try clear hk); (try clear hi)))
       go_roundg k1
       case measure => have := HK1.out; omega
       case rel => exact ⟨(x5_1), (wrap64 (x19_1 + 1)), (by first | rfl | (simp; done) | (simp [*]; done)), (by first | rfl | (simp; done) | (simp [*]; done)), H', ⟨by have := HK1.out; omega⟩, ⟨by (with_reducible repeat (first | refine blk_drewN ?_ _ | refine blk_drew ?_ | refine blk_alloc ?_ _)); exact BK106.out⟩, ⟨by (with_reducible repeat (first | refine blk_drewN ?_ _ | refine blk_drew ?_ | refine blk_alloc ?_ _)); exact BK107.out⟩, ⟨belowNow⟩⟩
     ·rw [if_neg c9] at H
      exact absurd H (by simp)
    ·rw [if_neg c8] at H
     exact absurd H (by simp)
   ·rw [if_neg c7] at H
    have c7b0 : decide (x19_1 < (l0_2.length : Int)) = false := decide_eq_false c7
    clear c7
    by_cases c88 : x5_1 < 0
    ·rw [if_pos c88] at H
     have c88b0 : decide (x5_1 < 0) = true := decide_eq_true c88
     clear c88
     simp only [Option.some.injEq, Prod.mk.injEq] at H
     obtain ⟨rfl, rfl, rfl⟩ := H
     go_wp2
     go_ret3
     exact ⟨by first | rfl | (simp [errW_none, errW_some] <;> rfl) | (simp [*, errW_none, errW_some] <;> rfl), belowNow⟩
    ·rw [if_neg c88] at H
     have c88b0 : decide (x5_1 < 0) = false := decide_eq_false c88
     clear c88
     have H' := Aside0.mk H
     clear H
     have hnb89 := NB106_107.out
     have hnc89 := NB107_106.out
     have hcz90_0 : wr.cell? ⟨gb106, 0, none⟩ = some (.int .i64 a0_0) := (blk_cell BK106.out 0).trans rfl
     have hcz90_1 : wr.cell? ⟨gb106, 1, none⟩ = some (.slice A0_1 l0_1.length c0_1) := (blk_cell BK106.out 1).trans rfl
     have hcz90_2 : wr.cell? ⟨gb106, 2, none⟩ = some (.slice A0_2 l0_2.length c0_2) := (blk_cell BK106.out 2).trans rfl
     have hcz90_3 : wr.cell? ⟨gb106, 3, none⟩ = some (.int .i64 a0_3) := (blk_cell BK106.out 3).trans rfl
     have hfz90_0 := blk_frozen BK106.out 0
     have hfz90_1 := blk_frozen BK106.out 1
     have hfz90_2 := blk_frozen BK106.out 2
     have hfz90_3 := blk_frozen BK106.out 3
     go_wp2
     go_loopg [10, 62] k1 (fun kq v10 v62 w' => ∃ (x10_2 : Int) (x62_2 : Int), v10 = .int .i64 x10_2 ∧ v62 = .int .i64 x62_2 ∧ Aside0 (impl_Desk_next.l1 kq x5_1 x10_2 l0_1 (l0_1.length : Int) x62_2 a0_0 l0_1 l0_2 a0_3 = some (r1, r2, r3)) ∧ Aside0 (kq ≤ k1) ∧ Aside0 (w'.heap[gb106]? = some (.cells #[.int .i64 a0_0, (.slice A0_1 l0_1.length c0_1), (.slice A0_2 l0_2.length c0_2), .int .i64 a0_3] 31 (0, 0))) ∧ Aside0 (w'.heap[gb107]? = some (.cells #[.func (.func 72) #[] #[]] 106 (0, 0))) ∧ Aside0 (Below w.heap.size w w'))
     case atStart => exact ⟨((-1)), (0), (by first | rfl | (simp; done) | (simp [*]; done)), (by first | rfl | (simp; done) | (simp [*]; done)), H', ⟨Nat.le_refl _⟩, ⟨by (with_reducible repeat (first | refine blk_drewN ?_ _ | refine blk_drew ?_ | refine blk_alloc ?_ _)); exact BK106.out⟩, ⟨by (with_reducible repeat (first | refine blk_drewN ?_ _ | refine blk_drew ?_ | refine blk_alloc ?_ _)); exact BK107.out⟩, ⟨belowNow⟩⟩
     case round =>
      clear H'
      try clear c1
      try clear p1
      try clear q1
      try clear hx1
      try clear c2
      try clear p2
      try clear c3
      try clear c4
      try clear c5
      try clear c6
      try clear p6
      try clear c7
      try clear c7b0
      try clear c8
      try clear c8b0
      try clear c9
      try clear c9b0
      try clear p10
      try clear q10
      try clear hx10
      try clear c11
      try clear p11
      try clear q11
      try clear hx11
      try clear c12
      try clear c12b0
      try clear c13
      try clear c13b0
      try clear c14
      try clear c14b0
      try clear c15
      try clear c15b0
      try clear c17
      try clear c18
      try clear c20
      try clear c25
      try clear c26
      try clear c27
      try clear c30
      try clear c30b0
      try clear c30b1
      try clear c31
      try clear c31b0
      try clear c33
      try clear c34
      try clear c36
      try clear c41
      try clear c42
      try clear c43
      try clear c45
      try clear c47
      try clear c48
      try clear c50
      try clear c55
      try clear c56
      try clear c57
      try clear c61
      try clear c62
      try clear c64
      try clear p64
      try clear c69
      try clear c70
      try clear c71
      try clear c73
      try clear c75
      try clear c76
      try clear c78
      try clear c82
      try clear c83
      try clear c85
      try clear c88
      try clear c88b0
      try clear c89
      try clear hcz19_0
      try clear hcz19_1
      try clear hcz19_2
      try clear hcz19_3
      try clear hcz21_0
      try clear hcz21_1
      try clear hcz21_2
      try clear hcz21_3
      try clear hcz23_0
      try clear hcz23_1
      try clear hcz23_2
      try clear hcz23_3
      try clear hcz28_0
      try clear hcz28_1
      try clear hcz28_2
      try clear hcz28_3
      try clear hcz29_0
      try clear hcz29_1
      try clear hcz29_2
      try clear hcz29_3
      try clear hcz35_0
      try clear hcz35_1
      try clear hcz35_2
      try clear hcz35_3
      try clear hcz37_0
      try clear hcz37_1
      try clear hcz37_2
      try clear hcz37_3
      try clear hcz39_0
      try clear hcz39_1
      try clear hcz39_2
      try clear hcz39_3
      try clear hcz44_0
      try clear hcz44_1
      try clear hcz44_2
      try clear hcz44_3
      try clear hcz45_0
      try clear hcz45_1
      try clear hcz45_2
      try clear hcz45_3
      try clear hcz49_0
      try clear hcz49_1
      try clear hcz49_2
      try clear hcz49_3
      try clear hcz51_0
      try clear hcz51_1
      try clear hcz51_2
      try clear hcz51_3
      try clear hcz53_0
      try clear hcz53_1
      try clear hcz53_2
      try clear hcz53_3
      try clear hcz58_0
      try clear hcz58_1
      try clear hcz58_2
      try clear hcz58_3
      try clear hcz59_0
      try clear hcz59_1
      try clear hcz59_2
      try clear hcz59_3
      try clear hcz5_0
      try clear hcz5_1
      try clear hcz5_2
      try clear hcz63_0
      try clear hcz63_1
      try clear hcz63_2
      try clear hcz63_3
      try clear hcz65_0
      try clear hcz65_1
      try clear hcz65_2
      try clear hcz65_3
      try clear hcz67_0
      try clear hcz67_1
      try clear hcz67_2
      try clear hcz67_3
      try clear hcz6_0
      try clear hcz6_1
      try clear hcz6_2
      try clear hcz6_3
      try clear hcz72_0
      try clear hcz72_1
      try clear hcz72_2
      try clear hcz72_3
      try clear hcz73_0
      try clear hcz73_1
      try clear hcz73_2
      try clear hcz73_3
      try clear hcz77_0
      try clear hcz77_1
      try clear hcz77_2
      try clear hcz77_3
      try clear hcz79_0
      try clear hcz79_1
      try clear hcz79_2
      try clear hcz79_3
      try clear hcz84_0
      try clear hcz84_1
      try clear hcz84_2
      try clear hcz84_3
      try clear hcz86_0
      try clear hcz86_1
      try clear hcz86_2
      try clear hcz86_3
      try clear hcz90_0
      try clear hcz90_1
      try clear hcz90_2
      try clear hcz90_3
      try clear hfz19_0
      try clear hfz19_1
      try clear hfz19_2
      try clear hfz19_3
      try clear hfz21_0
      try clear hfz21_1
      try clear hfz21_2
      try clear hfz21_3
      try clear hfz23_0
      try clear hfz23_1
      try clear hfz23_2
      try clear hfz23_3
      try clear hfz28_0
      try clear hfz28_1
      try clear hfz28_2
      try clear hfz28_3
      try clear hfz29_0
      try clear hfz29_1
      try clear hfz29_2
      try clear hfz29_3
      try clear hfz35_0
      try clear hfz35_1
      try clear hfz35_2
      try clear hfz35_3
      try clear hfz37_0
      try clear hfz37_1
      try clear hfz37_2
      try clear hfz37_3
      try clear hfz39_0
      try clear hfz39_1
      try clear hfz39_2
      try clear hfz39_3
      try clear hfz44_0
      try clear hfz44_1
      try clear hfz44_2
      try clear hfz44_3
      try clear hfz45_0
      try clear hfz45_1
      try clear hfz45_2
      try clear hfz45_3
      try clear hfz49_0
      try clear hfz49_1
      try clear hfz49_2
      try clear hfz49_3
      try clear hfz51_0
      try clear hfz51_1
      try clear hfz51_2
      try clear hfz51_3
      try clear hfz53_0
      try clear hfz53_1
      try clear hfz53_2
      try clear hfz53_3
      try clear hfz58_0
      try clear hfz58_1
      try clear hfz58_2
      try clear hfz58_3
      try clear hfz59_0
      try clear hfz59_1
      try clear hfz59_2
      try clear hfz59_3
      try clear hfz5_0
      try clear hfz5_1
      try clear hfz5_2
      try clear hfz63_0
      try clear hfz63_1
      try clear hfz63_2
      try clear hfz63_3
      try clear hfz65_0
      try clear hfz65_1
      try clear hfz65_2
      try clear hfz65_3
      try clear hfz67_0
      try clear hfz67_1
      try clear hfz67_2
      try clear hfz67_3
      try clear hfz6_0
      try clear hfz6_1
      try clear hfz6_2
      try clear hfz6_3
      try clear hfz72_0
      try clear hfz72_1
      try clear hfz72_2
      try clear hfz72_3
      try clear hfz73_0
      try clear hfz73_1
      try clear hfz73_2
      try clear hfz73_3
      try clear hfz77_0
      try clear hfz77_1
      try clear hfz77_2
      try clear hfz77_3
      try clear hfz79_0
      try clear hfz79_1
      try clear hfz79_2
      try clear hfz79_3
      try clear hfz84_0
      try clear hfz84_1
      try clear hfz84_2
      try clear hfz84_3
      try clear hfz86_0
      try clear hfz86_1
      try clear hfz86_2
      try clear hfz86_3
      try clear hfz90_0
      try clear hfz90_1
      try clear hfz90_2
      try clear hfz90_3
      try clear hx108_0
      try clear hx108_1
      try clear hx108_2
      try clear hx108_3
      try clear hx111_0
      try clear hx111_1
      try clear hx111_2
      try clear hx111_3
      try clear p108
      try clear p111
      try clear p2
      try clear q108
      try clear q111
      obtain ⟨x10_2, x62_2, rfl, rfl, HA, HK2, BK106, BK107, HB⟩ := hrel
      cases gk with
      | zero => exact absurd HA.out (by simp [impl_Desk_next.l1])
      | succ k2 =>
       have H := HA.out
       clear HA
       simp only [impl_Desk_next.l1] at H
       by_cases c91 : x62_2 < (l0_1.length : Int)
       ·rw [if_pos c91] at H
        have c91b0 : decide (x62_2 < (l0_1.length : Int)) = true := decide_eq_true c91
        clear c91
        by_cases c92 : 0 ≤ x62_2
        ·rw [if_pos c92] at H
         have c92b0 : decide (0 ≤ x62_2) = true := decide_eq_true c92
         clear c92
         by_cases c93 : x62_2 < (l0_1.length : Int)
         ·rw [if_pos c93] at H
          have c93b0 : decide (x62_2 < (l0_1.length : Int)) = true := decide_eq_true c93
          clear c93
          by_cases c94 : 0 ≤ x5_1
          ·rw [if_pos c94] at H
           have c94b0 : decide (0 ≤ x5_1) = true := decide_eq_true c94
           clear c94
           by_cases c95 : x5_1 < (l0_2.length : Int)
           ·rw [if_pos c95] at H
            have c95b0 : decide (x5_1 < (l0_2.length : Int)) = true := decide_eq_true c95
            clear c95
            replace H := Option.bind_eq_some_iff.mp H
            obtain ⟨t116, A960, H⟩ := H
            replace H : (if t116 = true then (if x10_2 ≥ 0 then (if 0 ≤ x10_2 then (if x10_2 < (l0_1.length : Int) then ((bits_OnesCount.f (IntKind.u64.wrap ((rd_T41 l0_1 x62_2).f0))).bind fun t119 => ((bits_OnesCount.f (IntKind.u64.wrap ((rd_T41 l0_1 x10_2).f0))).bind fun t120 => (if t119 > t120 then (impl_Desk_next.l1 k2 x5_1 x10_2 l0_1 (l0_1.length : Int) (wrap64 (x62_2 + 1)) a0_0 l0_1 l0_2 a0_3) else (if t119 = t120 then (if ((rd_T41 l0_1 x62_2).f2) ≥ ((rd_T41 l0_1 x10_2).f2) then (impl_Desk_next.l1 k2 x5_1 x10_2 l0_1 (l0_1.length : Int) (wrap64 (x62_2 + 1)) a0_0 l0_1 l0_2 a0_3) else (impl_Desk_next.l1 k2 x5_1 x62_2 l0_1 (l0_1.length : Int) (wrap64 (x62_2 + 1)) a0_0 l0_1 l0_2 a0_3)) else (impl_Desk_next.l1 k2 x5_1 x62_2 l0_1 (l0_1.length : Int) (wrap64 (x62_2 + 1)) a0_0 l0_1 l0_2 a0_3))))) else (none)) else (none)) else (impl_Desk_next.l1 k2 x5_1 x62_2 l0_1 (l0_1.length : Int) (wrap64 (x62_2 + 1)) a0_0 l0_1 l0_2 a0_3)) else (impl_Desk_next.l1 k2 x5_1 x10_2 l0_1 (l0_1.length : Int) (wrap64 (x62_2 + 1)) a0_0 l0_1 l0_2 a0_3)) = some (r1, r2, r3) := H
            have A96 := Aside0.mk A960
            clear A960
            by_cases c97 : t116 = true
            ·subst c97
             have H1 : (if x10_2 ≥ 0 then (if 0 ≤ x10_2 then (if x10_2 < (l0_1.length : Int) then ((bits_OnesCount.f (IntKind.u64.wrap ((rd_T41 l0_1 x62_2).f0))).bind fun t119 => ((bits_OnesCount.f (IntKind.u64.wrap ((rd_T41 l0_1 x10_2).f0))).bind fun t120 => (if t119 > t120 then (impl_Desk_next.l1 k2 x5_1 x10_2 l0_1 (l0_1.length : Int) (wrap64 (x62_2 + 1)) a0_0 l0_1 l0_2 a0_3) else (if t119 = t120 then (if ((rd_T41 l0_1 x62_2).f2) ≥ ((rd_T41 l0_1 x10_2).f2) then (impl_Desk_next.l1 k2 x5_1 x10_2 l0_1 (l0_1.length : Int) (wrap64 (x62_2 + 1)) a0_0 l0_1 l0_2 a0_3) else (impl_Desk_next.l1 k2 x5_1 x62_2 l0_1 (l0_1.length : Int) (wrap64 (x62_2 + 1)) a0_0 l0_1 l0_2 a0_3)) else (impl_Desk_next.l1 k2 x5_1 x62_2 l0_1 (l0_1.length : Int) (wrap64 (x62_2 + 1)) a0_0 l0_1 l0_2 a0_3))))) else (none)) else (none)) else (impl_Desk_next.l1 k2 x5_1 x62_2 l0_1 (l0_1.length : Int) (wrap64 (x62_2 + 1)) a0_0 l0_1 l0_2 a0_3)) = some (r1, r2, r3) := by rw [if_pos rfl] at H; exact H
             clear H
             have H := H1
             clear H1
             by_cases c98 : x10_2 ≥ 0
             ·rw [if_pos c98] at H
              have c98b0 : decide (0 ≤ x10_2) = true := decide_eq_true c98
              clear c98
              by_cases c99 : 0 ≤ x10_2
              ·rw [if_pos c99] at H
               have c99b0 : decide (0 ≤ x10_2) = true := decide_eq_true c99
               clear c99
               by_cases c100 : x10_2 < (l0_1.length : Int)
               ·rw [if_pos c100] at H
                have c100b0 : decide (x10_2 < (l0_1.length : Int)) = true := decide_eq_true c100
                clear c100
                replace H := Option.bind_eq_some_iff.mp H
                obtain ⟨t119, A1010, H⟩ := H
                replace H : ((bits_OnesCount.f (IntKind.u64.wrap ((rd_T41 l0_1 x10_2).f0))).bind fun t120 => (if t119 > t120 then (impl_Desk_next.l1 k2 x5_1 x10_2 l0_1 (l0_1.length : Int) (wrap64 (x62_2 + 1)) a0_0 l0_1 l0_2 a0_3) else (if t119 = t120 then (if ((rd_T41 l0_1 x62_2).f2) ≥ ((rd_T41 l0_1 x10_2).f2) then (impl_Desk_next.l1 k2 x5_1 x10_2 l0_1 (l0_1.length : Int) (wrap64 (x62_2 + 1)) a0_0 l0_1 l0_2 a0_3) else (impl_Desk_next.l1 k2 x5_1 x62_2 l0_1 (l0_1.length : Int) (wrap64 (x62_2 + 1)) a0_0 l0_1 l0_2 a0_3)) else (impl_Desk_next.l1 k2 x5_1 x62_2 l0_1 (l0_1.length : Int) (wrap64 (x62_2 + 1)) a0_0 l0_1 l0_2 a0_3)))) = some (r1, r2, r3) := H
                have A101 := Aside0.mk A1010
                clear A1010
                replace H := Option.bind_eq_some_iff.mp H
                obtain ⟨t120, A1020, H⟩ := H
                replace H : (if t119 > t120 then (impl_Desk_next.l1 k2 x5_1 x10_2 l0_1 (l0_1.length : Int) (wrap64 (x62_2 + 1)) a0_0 l0_1 l0_2 a0_3) else (if t119 = t120 then (if ((rd_T41 l0_1 x62_2).f2) ≥ ((rd_T41 l0_1 x10_2).f2) then (impl_Desk_next.l1 k2 x5_1 x10_2 l0_1 (l0_1.length : Int) (wrap64 (x62_2 + 1)) a0_0 l0_1 l0_2 a0_3) else (impl_Desk_next.l1 k2 x5_1 x62_2 l0_1 (l0_1.length : Int) (wrap64 (x62_2 + 1)) a0_0 l0_1 l0_2 a0_3)) else (impl_Desk_next.l1 k2 x5_1 x62_2 l0_1 (l0_1.length : Int) (wrap64 (x62_2 + 1)) a0_0 l0_1 l0_2 a0_3))) = some (r1, r2, r3) := H
                have A102 := Aside0.mk A1020
                clear A1020
                by_cases c103 : t119 > t120
                ·rw [if_pos c103] at H
                 have c103b0 : decide (t120 < t119) = true := decide_eq_true c103
                 clear c103
                 have H' := Aside0.mk H
                 clear H
                 have p113 : 0 ≤ (x62_2 : Int) := of_decide_eq_true (by first | (with_reducible assumption) | assumption)
                 have q113 : x62_2 < (l0_1.length : Int) := of_decide_eq_true (by first | (with_reducible assumption) | assumption)
                 obtain ⟨ad113, e113, hx113_0, hx113_1, hx113_2⟩ := at_T41 HR0_1.out x62_2 p113 q113
                 cases e113
                 replace hx113_0 := (HB.out.cell (World.block_lt_of_cell? w _ hx113_0)).trans hx113_0
                 replace hx113_1 := (HB.out.cell (World.block_lt_of_cell? w _ hx113_1)).trans hx113_1
                 replace hx113_2 := (HB.out.cell (World.block_lt_of_cell? w _ hx113_2)).trans hx113_2
                 replace p113 := eq_true p113
                 replace q113 := eq_true q113
                 try go_wp2_with (first | ((with_reducible refine gate_dst (N := 12) rfl ?_); refine box_event ?hg (N := 12) ?hd (cs := #[.int .i64 0, .int .i64 0, .int .i64 0]) (t := 41) ?hr ?_; (case hd => rfl); (case hg => rfl); (case hr => first | (go_simp; done) | (go_simp; rfl)); intro gb114 hg w104 hbox hb; have n0_ := Aside0.mk (blkStep (g := gb106) hb); have n1_ := Aside0.mk (blkStep (g := gb107) hb); have n2_ := Aside0.mk (below_step belowNow hb); have n3_ := Aside0.mk (hbox); have n4_ := Aside0.mk ((by rw [hg]; exact (below_size belowNow) : w.heap.size ≤ gb114)); have n5_ := n4_; have n6_ := Aside0.mk ((by rw [hg]; exact Nat.ne_of_lt (blkLt (g := gb106)) : gb106 ≠ gb114)); have n7_ := Aside0.mk ((by rw [hg]; exact Nat.ne_of_gt (blkLt (g := gb106)) : gb114 ≠ gb106)); have n8_ := Aside0.mk ((by rw [hg]; exact Nat.ne_of_lt (blkLt (g := gb107)) : gb107 ≠ gb114)); have n9_ := Aside0.mk ((by rw [hg]; exact Nat.ne_of_gt (blkLt (g := gb107)) : gb114 ≠ gb107)); clear BK106; clear BK107; clear HB; have BK106 := n0_; have BK107 := n1_; have HB := n2_; have BK114 := n3_; have GW114 := n4_; have GE114 := n5_; have NB106_114 := n6_; have NB114_106 := n7_; have NB107_114 := n8_; have NB114_107 := n9_; clear n0_ n1_ n2_ n3_ n4_ n5_ n6_ n7_ n8_ n9_; clear hb hbox hg; have hnb105 := NB114_106.out; have hnc105 := NB106_114.out; have hnb106 := NB114_107.out; have hnc106 := NB107_114.out; have hcz107_0 : w104.cell? ⟨gb114, 0, none⟩ = some (.int .i64 0) := (blk_cell BK114.out 0).trans rfl; have hcz107_1 : w104.cell? ⟨gb114, 1, none⟩ = some (.int .i64 0) := (blk_cell BK114.out 1).trans rfl; have hcz107_2 : w104.cell? ⟨gb114, 2, none⟩ = some (.int .i64 0) := (blk_cell BK114.out 2).trans rfl; have hfz107_0 := blk_frozen BK114.out 0; have hfz107_1 := blk_frozen BK114.out 1; have hfz107_2 := blk_frozen BK114.out 2))
                 have n0_ : Aside0 ((((w104.setCell ⟨gb114, 0, none⟩ (.int .i64 ((rd_T41 l0_1 x62_2).f0))).setCell ⟨gb114, 1, none⟩ (.int .i64 ((rd_T41 l0_1 x62_2).f1))).setCell ⟨gb114, 2, none⟩ (.int .i64 ((rd_T41 l0_1 x62_2).f2))).heap[gb106]? = some (.cells #[.int .i64 a0_0, .slice (some ad113) l0_1.length c0_1, .slice A0_2 l0_2.length c0_2, .int .i64 a0_3] 31 (0, 0))) := ⟨blkFars⟩
                 have n1_ : Aside0 ((((w104.setCell ⟨gb114, 0, none⟩ (.int .i64 ((rd_T41 l0_1 x62_2).f0))).setCell ⟨gb114, 1, none⟩ (.int .i64 ((rd_T41 l0_1 x62_2).f1))).setCell ⟨gb114, 2, none⟩ (.int .i64 ((rd_T41 l0_1 x62_2).f2))).heap[gb107]? = some (.cells #[.func (.func 72) #[] #[]] 106 (0, 0))) := ⟨blkFars⟩
                 have n2_ : Aside0 ((((w104.setCell ⟨gb114, 0, none⟩ (.int .i64 ((rd_T41 l0_1 x62_2).f0))).setCell ⟨gb114, 1, none⟩ (.int .i64 ((rd_T41 l0_1 x62_2).f1))).setCell ⟨gb114, 2, none⟩ (.int .i64 ((rd_T41 l0_1 x62_2).f2))).heap[gb114]? = some (.cells #[.int .i64 ((rd_T41 l0_1 x62_2).f0), .int .i64 ((rd_T41 l0_1 x62_2).f1), .int .i64 ((rd_T41 l0_1 x62_2).f2)] 41 (0, 0))) := ⟨by (with_reducible repeat (first | refine blk_drewN ?_ _ | refine blk_drew ?_ | refine blk_alloc ?_ _)); refine blk_put (cs := #[.int .i64 ((rd_T41 l0_1 x62_2).f0), .int .i64 ((rd_T41 l0_1 x62_2).f1), .int .i64 0]) ?_ 2 _ rfl; (with_reducible repeat (first | refine blk_drewN ?_ _ | refine blk_drew ?_ | refine blk_alloc ?_ _)); refine blk_put (cs := #[.int .i64 ((rd_T41 l0_1 x62_2).f0), .int .i64 0, .int .i64 0]) ?_ 1 _ rfl; (with_reducible repeat (first | refine blk_drewN ?_ _ | refine blk_drew ?_ | refine blk_alloc ?_ _)); refine blk_put (cs := #[.int .i64 0, .int .i64 0, .int .i64 0]) ?_ 0 _ rfl; (with_reducible repeat (first | refine blk_drewN ?_ _ | refine blk_drew ?_ | refine blk_alloc ?_ _)); exact BK114.out⟩
                 have n3_ : Aside0 (Below w.heap.size w (((w104.setCell ⟨gb114, 0, none⟩ (.int .i64 ((rd_T41 l0_1 x62_2).f0))).setCell ⟨gb114, 1, none⟩ (.int .i64 ((rd_T41 l0_1 x62_2).f1))).setCell ⟨gb114, 2, none⟩ (.int .i64 ((rd_T41 l0_1 x62_2).f2)))) := ⟨belowNow⟩
                 (try clear BK106)
                 (try clear BK107)
                 (try clear BK114)
                 (try clear HB)
                 generalize (((w104.setCell ⟨gb114, 0, none⟩ (.int .i64 ((rd_T41 l0_1 x62_2).f0))).setCell ⟨gb114, 1, none⟩ (.int .i64 ((rd_T41 l0_1 x62_2).f1))).setCell ⟨gb114, 2, none⟩ (.int .i64 ((rd_T41 l0_1 x62_2).f2))) = w108 at n0_ n1_ n2_ n3_ ⊢
                 have BK106 := n0_
                 have BK107 := n1_
                 have BK114 := n2_
                 have HB := n3_
                 clear n0_ n1_ n2_ n3_
                 have n0_ := Aside0.mk (blk_drew BK106.out)
                 have n1_ := Aside0.mk (blk_drew BK107.out)
                 have n2_ := Aside0.mk (blk_drew BK114.out)
                 have n3_ := Aside0.mk (below_drew1 HB.out)
                 clear BK106
                 clear BK107
                 clear BK114
                 clear HB
                 have BK106 := n0_
                 have BK107 := n1_
                 have BK114 := n2_
                 have HB := n3_
                 clear n0_ n1_ n2_ n3_
                 have p115 : 0 ≤ (x5_1 : Int) := of_decide_eq_true (by first | (with_reducible assumption) | assumption)
                 have q115 : x5_1 < (l0_2.length : Int) := of_decide_eq_true (by first | (with_reducible assumption) | assumption)
                 obtain ⟨ad115, e115, hx115_0, hx115_1, hx115_2, hx115_3⟩ := at_T70 HR0_2.out x5_1 p115 q115
                 have hw115_3 := hx115_3
                 have hw115_2 := hx115_2
                 have hw115_1 := hx115_1
                 have hw115_0 := hx115_0
                 cases e115
                 replace hx115_0 := (HB.out.cell (World.block_lt_of_cell? w _ hx115_0)).trans hx115_0
                 replace hx115_1 := (HB.out.cell (World.block_lt_of_cell? w _ hx115_1)).trans hx115_1
                 replace hx115_2 := (HB.out.cell (World.block_lt_of_cell? w _ hx115_2)).trans hx115_2
                 replace hx115_3 := (HB.out.cell (World.block_lt_of_cell? w _ hx115_3)).trans hx115_3
                 replace p115 := eq_true p115
                 replace q115 := eq_true q115
                 refine start_ (n := 9) (S := fun w' => w'.cell? ⟨gb107, 0, none⟩ = some (.func (.func 72) #[] #[]) ∧ True ∧ True ∧ w'.cell? ⟨gb106, 0, none⟩ = some (.int .i64 a0_0) ∧ w'.cell? ⟨gb106, 1, none⟩ = some (.slice (some ad113) l0_1.length c0_1) ∧ w'.cell? ⟨gb106, 2, none⟩ = some (.slice (some ad115) l0_2.length c0_2) ∧ w'.cell? ⟨gb106, 3, none⟩ = some (.int .i64 a0_3) ∧ w'.cell? ⟨gb114, 0, none⟩ = some (.int .i64 ((rd_T41 l0_1 x62_2).f0)) ∧ w'.cell? ⟨gb114, 1, none⟩ = some (.int .i64 ((rd_T41 l0_1 x62_2).f1)) ∧ w'.cell? ⟨gb114, 2, none⟩ = some (.int .i64 ((rd_T41 l0_1 x62_2).f2)) ∧ w'.cell? (ad115.add ((x5_1).toNat * 4)) = some (.int .i64 ((rd_T70 l0_2 x5_1).f0)) ∧ w'.cell? ⟨(ad115.add ((x5_1).toNat * 4)).block, (ad115.add ((x5_1).toNat * 4)).off + 1, none⟩ = some (.int .i64 ((rd_T70 l0_2 x5_1).f1)) ∧ w'.cell? ⟨(ad115.add ((x5_1).toNat * 4)).block, (ad115.add ((x5_1).toNat * 4)).off + 2, none⟩ = some (.int .i64 ((rd_T70 l0_2 x5_1).f2)) ∧ w'.cell? ⟨(ad115.add ((x5_1).toNat * 4)).block, (ad115.add ((x5_1).toNat * 4)).off + 3, none⟩ = some (.int .i64 ((rd_T70 l0_2 x5_1).f3))) (ds := []) #[false, false, false, false, false, false, false, false, false] (by kernel_rfl) rfl rfl ⟨(blk_cell BK107.out 0).trans rfl, trivial, trivial, (blk_cell BK106.out 0).trans rfl, (blk_cell BK106.out 1).trans rfl, (blk_cell BK106.out 2).trans rfl, (blk_cell BK106.out 3).trans rfl, (blk_cell BK114.out 0).trans rfl, (blk_cell BK114.out 1).trans rfl, (blk_cell BK114.out 2).trans rfl, ((HB.out.cell (World.block_lt_of_cell? w _ hw115_0)).trans hw115_0), ((HB.out.cell (World.block_lt_of_cell? w _ hw115_1)).trans hw115_1), ((HB.out.cell (World.block_lt_of_cell? w _ hw115_2)).trans hw115_2), ((HB.out.cell (World.block_lt_of_cell? w _ hw115_3)).trans hw115_3)⟩ (fun hHeld => ?_); refine with_tabW impl_Desk_next.tab18 impl_Desk_next.bits18 (fun HT_ HW_ => ?_)
                 generalize w108.drew = w109 at BK106 BK107 BK114 HB hx115_0 hx115_1 hx115_2 hx115_3 hHeld ⊢
                 refine pure_ (i := 1) (N := some 68) (v := ?_) (a' := ?_) #[false, true, false, false, false, false, false, false, false] rfl rfl (any_of HT_.out (by kernel_rfl)) (fun _ _ _ h => h) (Or.inl ⟨by rfl, ?_⟩) ?_ ?_
                 rotate_left
                 ·intro w'
                  go_simp
                  with_reducible rfl
                 rotate_left
                 ·simp only [Act.put, List.setIfInBounds_toArray, List.set_cons_zero, List.set_cons_succ, i64_w, i32_w]
                  rfl
                 refine pure_ (i := 3) (N := some 70) (v := ?_) (a' := ?_) #[false, true, false, true, false, false, false, false, false] rfl rfl (any_of HT_.out (by kernel_rfl)) (fun _ _ _ h => h) (Or.inl ⟨by rfl, ?_⟩) ?_ ?_
                 rotate_left
                 ·intro w'
                  go_simp
                  with_reducible rfl
                 rotate_left
                 ·simp only [Act.put, List.setIfInBounds_toArray, List.set_cons_zero, List.set_cons_succ, i64_w, i32_w]
                  rfl
                 refine take_ (i := 0) (N := some 67) (v := ?_) (a' := ?_) #[true, true, false, true, false, false, false, false, false] rfl rfl (take_ofW HT_.out HW_.out (by kernel_rfl)) (fun _ _ _ h => h) (Or.inl ⟨by rfl, ?_⟩) hHeld ?_ ?_
                 rotate_left
                 ·rintro w' ⟨s0, s1, s2, s3, s4, s5, s6, s7, s8, s9, s10, s11, s12, s13⟩
                  go_simp
                  with_reducible rfl
                 rotate_left
                 ·simp only [Act.put, List.setIfInBounds_toArray, List.set_cons_zero, List.set_cons_succ, i64_w, i32_w]
                  rfl
                 refine take_ (i := 2) (N := some 69) (v := ?_) (a' := ?_) #[true, true, true, true, false, false, false, false, false] rfl rfl (take_ofW HT_.out HW_.out (by kernel_rfl)) (fun _ _ _ h => h) (Or.inl ⟨by rfl, ?_⟩) hHeld ?_ ?_
                 rotate_left
                 ·rintro w' ⟨s0, s1, s2, s3, s4, s5, s6, s7, s8, s9, s10, s11, s12, s13⟩
                  go_simp
                  with_reducible rfl
                 rotate_left
                 ·simp only [Act.put, List.setIfInBounds_toArray, List.set_cons_zero, List.set_cons_succ, i64_w, i32_w]
                  rfl
                 refine pure_ (i := 4) (N := some 71) (v := ?_) (a' := ?_) #[true, true, true, true, true, false, false, false, false] rfl rfl (any_of HT_.out (by kernel_rfl)) (fun _ _ _ h => h) (Or.inl ⟨by rfl, ?_⟩) ?_ ?_
                 rotate_left
                 ·intro w'
                  go_simp
                  with_reducible rfl
                 rotate_left
                 ·simp only [Act.put, List.setIfInBounds_toArray, List.set_cons_zero, List.set_cons_succ, i64_w, i32_w]
                  rfl
                 refine take_ (i := 5) (N := some 72) (v := ?_) (a' := ?_) #[true, true, true, true, true, true, false, false, false] rfl rfl (take_ofW HT_.out HW_.out (by kernel_rfl)) (fun _ _ _ h => h) (Or.inl ⟨by rfl, ?_⟩) hHeld ?_ ?_
                 rotate_left
                 ·rintro w' ⟨s0, s1, s2, s3, s4, s5, s6, s7, s8, s9, s10, s11, s12, s13⟩
                  go_simp
                  with_reducible rfl
                 rotate_left
                 ·simp only [Act.put, List.setIfInBounds_toArray, List.set_cons_zero, List.set_cons_succ, i64_w, i32_w]
                  rfl
                 refine take_ (i := 6) (N := some 73) (v := ?_) (a' := ?_) #[true, true, true, true, true, true, true, false, false] rfl rfl (take_ofW HT_.out HW_.out (by kernel_rfl)) (fun _ _ _ h => h) (Or.inl ⟨by rfl, ?_⟩) hHeld ?_ ?_
                 rotate_left
                 ·rintro w' ⟨s0, s1, s2, s3, s4, s5, s6, s7, s8, s9, s10, s11, s12, s13⟩
                  go_simp
                  with_reducible rfl
                 rotate_left
                 ·simp only [Act.put, List.setIfInBounds_toArray, List.set_cons_zero, List.set_cons_succ, i64_w, i32_w]
                  rfl
                 refine one_ (i := 7) (N := some 74) #[true, true, true, true, true, true, true, true, false] rfl rfl (one_of HT_.out (by kernel_rfl)) (by decide) (fun K hK => ?_)
                 refine Clo.goesF_ (p := 67) rfl Try.func72 (by kernel_rfl) rfl #[.agg #[.int .i64 ((rd_T70 l0_2 x5_1).f0), .int .i64 ((rd_T70 l0_2 x5_1).f1), .int .i64 ((rd_T70 l0_2 x5_1).f2), .int .i64 ((rd_T70 l0_2 x5_1).f3)], .agg #[.int .i64 ((rd_T41 l0_1 x62_2).f0), .int .i64 ((rd_T41 l0_1 x62_2).f1), .int .i64 ((rd_T41 l0_1 x62_2).f2)]] (by rfl) rfl rfl (by (try simp only [List.map_toArray, List.map_cons, List.map_nil]); first | done | rfl | (simp only [List.length_drop, List.length_take]; rfl)) ?_
                 with_reducible refine (impl_Desk_next_1.calls ((rd_T70 l0_2 x5_1).f0) ((rd_T70 l0_2 x5_1).f1) ((rd_T70 l0_2 x5_1).f2) ((rd_T70 l0_2 x5_1).f3) ((rd_T41 l0_1 x62_2).f0) ((rd_T41 l0_1 x62_2).f1) ((rd_T41 l0_1 x62_2).f2) true _ A96.out).mono ?_
                 rintro e w110 ⟨rfl, hb⟩
                 refine ⟨_, rfl, ?_⟩
                 have n0_ := Aside0.mk (blkStep (g := gb106) hb)
                 have n1_ := Aside0.mk (blkStep (g := gb107) hb)
                 have n2_ := Aside0.mk (blkStep (g := gb114) hb)
                 have n3_ := Aside0.mk (below_step belowNow hb)
                 clear BK106
                 clear BK107
                 clear BK114
                 clear HB
                 have BK106 := n0_
                 have BK107 := n1_
                 have BK114 := n2_
                 have HB := n3_
                 clear n0_ n1_ n2_ n3_
                 (try clear hb)
                 (try clear hb2)
                 (try clear hk)
                 (try clear hi)
                 refine hK.out _ _ ⟨(blk_cell BK107.out 0).trans rfl, trivial, trivial, (blk_cell BK106.out 0).trans rfl, (blk_cell BK106.out 1).trans rfl, (blk_cell BK106.out 2).trans rfl, (blk_cell BK106.out 3).trans rfl, (blk_cell BK114.out 0).trans rfl, (blk_cell BK114.out 1).trans rfl, (blk_cell BK114.out 2).trans rfl, ((HB.out.cell (World.block_lt_of_cell? w _ hw115_0)).trans hw115_0), ((HB.out.cell (World.block_lt_of_cell? w _ hw115_1)).trans hw115_1), ((HB.out.cell (World.block_lt_of_cell? w _ hw115_2)).trans hw115_2), ((HB.out.cell (World.block_lt_of_cell? w _ hw115_3)).trans hw115_3)⟩ (fun hHeld => ?_)
                 clear hK K
                 refine norm_ (a' := ?_) ?_ ?_
                 rotate_left
                 ·show Act.put _ (some 74) _ = _
                  simp only [Act.put, List.setIfInBounds_toArray, List.set_cons_zero, List.set_cons_succ, i64_w, i32_w]
                  rfl
                 refine pure_ (i := 8) (N := some 75) (v := ?_) (a' := ?_) #[true, true, true, true, true, true, true, true, true] rfl rfl (any_of HT_.out (by kernel_rfl)) (fun _ _ _ h => h) (Or.inl ⟨by rfl, ?_⟩) ?_ ?_
                 rotate_left
                 ·intro w'
                  go_simp
                  with_reducible rfl
                 rotate_left
                 ·simp only [Act.put, List.setIfInBounds_toArray, List.set_cons_zero, List.set_cons_succ, i64_w, i32_w]
                  rfl
                 refine done_ (done_of HT_.out (by kernel_rfl)) ?_
                 have hnb111 := NB106_107.out
                 have hnc111 := NB107_106.out
                 have hcz112_0 : w110.cell? ⟨gb106, 0, none⟩ = some (.int .i64 a0_0) := (blk_cell BK106.out 0).trans rfl
                 have hcz112_1 : w110.cell? ⟨gb106, 1, none⟩ = some (.slice (some ad113) l0_1.length c0_1) := (blk_cell BK106.out 1).trans rfl
                 have hcz112_2 : w110.cell? ⟨gb106, 2, none⟩ = some (.slice (some ad115) l0_2.length c0_2) := (blk_cell BK106.out 2).trans rfl
                 have hcz112_3 : w110.cell? ⟨gb106, 3, none⟩ = some (.int .i64 a0_3) := (blk_cell BK106.out 3).trans rfl
                 have hfz112_0 := blk_frozen BK106.out 0
                 have hfz112_1 := blk_frozen BK106.out 1
                 have hfz112_2 := blk_frozen BK106.out 2
                 have hfz112_3 := blk_frozen BK106.out 3
                 have p117 : 0 ≤ (x10_2 : Int) := of_decide_eq_true (by first | (with_reducible assumption) | assumption)
                 have q117 : x10_2 < (l0_1.length : Int) := of_decide_eq_true (by first | (with_reducible assumption) | assumption)
                 obtain ⟨ad117, e117, hx117_0, hx117_1, hx117_2⟩ := at_T41 HR0_1.out x10_2 p117 q117
                 obtain rfl : ad113 = ad117 := (by injection e117)
                 replace hx117_0 := (HB.out.cell (World.block_lt_of_cell? w _ hx117_0)).trans hx117_0
                 replace hx117_1 := (HB.out.cell (World.block_lt_of_cell? w _ hx117_1)).trans hx117_1
                 replace hx117_2 := (HB.out.cell (World.block_lt_of_cell? w _ hx117_2)).trans hx117_2
                 replace p117 := eq_true p117
                 replace q117 := eq_true q117
                 try go_wp2_with (first | ((with_reducible refine gate_dst (N := 13) rfl ?_); refine box_event ?hg (N := 13) ?hd (cs := #[.int .i64 0, .int .i64 0, .int .i64 0]) (t := 41) ?hr ?_; (case hd => rfl); (case hg => rfl); (case hr => first | (go_simp; done) | (go_simp; rfl)); intro gb118 hg w113 hbox hb; have n0_ := Aside0.mk (blkStep (g := gb106) hb); have n1_ := Aside0.mk (blkStep (g := gb107) hb); have n2_ := Aside0.mk (blkStep (g := gb114) hb); have n3_ := Aside0.mk (below_step belowNow hb); have n4_ := Aside0.mk (hbox); have n5_ := Aside0.mk ((by rw [hg]; exact (below_size belowNow) : w.heap.size ≤ gb118)); have n6_ := n5_; have n7_ := Aside0.mk ((by rw [hg]; exact Nat.ne_of_lt (blkLt (g := gb106)) : gb106 ≠ gb118)); have n8_ := Aside0.mk ((by rw [hg]; exact Nat.ne_of_gt (blkLt (g := gb106)) : gb118 ≠ gb106)); have n9_ := Aside0.mk ((by rw [hg]; exact Nat.ne_of_lt (blkLt (g := gb107)) : gb107 ≠ gb118)); have n10_ := Aside0.mk ((by rw [hg]; exact Nat.ne_of_gt (blkLt (g := gb107)) : gb118 ≠ gb107)); have n11_ := Aside0.mk ((by rw [hg]; exact Nat.ne_of_lt (blkLt (g := gb114)) : gb114 ≠ gb118)); have n12_ := Aside0.mk ((by rw [hg]; exact Nat.ne_of_gt (blkLt (g := gb114)) : gb118 ≠ gb114)); clear BK106; clear BK107; clear BK114; clear HB; have BK106 := n0_; have BK107 := n1_; have BK114 := n2_; have HB := n3_; have BK118 := n4_; have GW118 := n5_; have GE118 := n6_; have NB106_118 := n7_; have NB118_106 := n8_; have NB107_118 := n9_; have NB118_107 := n10_; have NB114_118 := n11_; have NB118_114 := n12_; clear n0_ n1_ n2_ n3_ n4_ n5_ n6_ n7_ n8_ n9_ n10_ n11_ n12_; clear hb hbox hg; have hnb114 := NB118_106.out; have hnc114 := NB106_118.out; have hnb115 := NB118_107.out; have hnc115 := NB107_118.out; have hnb116 := NB118_114.out; have hnc116 := NB114_118.out; have hcz117_0 : w113.cell? ⟨gb118, 0, none⟩ = some (.int .i64 0) := (blk_cell BK118.out 0).trans rfl; have hcz117_1 : w113.cell? ⟨gb118, 1, none⟩ = some (.int .i64 0) := (blk_cell BK118.out 1).trans rfl; have hcz117_2 : w113.cell? ⟨gb118, 2, none⟩ = some (.int .i64 0) := (blk_cell BK118.out 2).trans rfl; have hfz117_0 := blk_frozen BK118.out 0; have hfz117_1 := blk_frozen BK118.out 1; have hfz117_2 := blk_frozen BK118.out 2))
                 have n0_ : Aside0 ((((w113.setCell ⟨gb118, 0, none⟩ (.int .i64 ((rd_T41 l0_1 x10_2).f0))).setCell ⟨gb118, 1, none⟩ (.int .i64 ((rd_T41 l0_1 x10_2).f1))).setCell ⟨gb118, 2, none⟩ (.int .i64 ((rd_T41 l0_1 x10_2).f2))).heap[gb106]? = some (.cells #[.int .i64 a0_0, .slice (some ad113) l0_1.length c0_1, .slice (some ad115) l0_2.length c0_2, .int .i64 a0_3] 31 (0, 0))) := ⟨blkFars⟩
                 have n1_ : Aside0 ((((w113.setCell ⟨gb118, 0, none⟩ (.int .i64 ((rd_T41 l0_1 x10_2).f0))).setCell ⟨gb118, 1, none⟩ (.int .i64 ((rd_T41 l0_1 x10_2).f1))).setCell ⟨gb118, 2, none⟩ (.int .i64 ((rd_T41 l0_1 x10_2).f2))).heap[gb107]? = some (.cells #[.func (.func 72) #[] #[]] 106 (0, 0))) := ⟨blkFars⟩
                 have n2_ : Aside0 ((((w113.setCell ⟨gb118, 0, none⟩ (.int .i64 ((rd_T41 l0_1 x10_2).f0))).setCell ⟨gb118, 1, none⟩ (.int .i64 ((rd_T41 l0_1 x10_2).f1))).setCell ⟨gb118, 2, none⟩ (.int .i64 ((rd_T41 l0_1 x10_2).f2))).heap[gb114]? = some (.cells #[.int .i64 ((rd_T41 l0_1 x62_2).f0), .int .i64 ((rd_T41 l0_1 x62_2).f1), .int .i64 ((rd_T41 l0_1 x62_2).f2)] 41 (0, 0))) := ⟨blkFars⟩
                 have n3_ : Aside0 ((((w113.setCell ⟨gb118, 0, none⟩ (.int .i64 ((rd_T41 l0_1 x10_2).f0))).setCell ⟨gb118, 1, none⟩ (.int .i64 ((rd_T41 l0_1 x10_2).f1))).setCell ⟨gb118, 2, none⟩ (.int .i64 ((rd_T41 l0_1 x10_2).f2))).heap[gb118]? = some (.cells #[.int .i64 ((rd_T41 l0_1 x10_2).f0), .int .i64 ((rd_T41 l0_1 x10_2).f1), .int .i64 ((rd_T41 l0_1 x10_2).f2)] 41 (0, 0))) := ⟨by (with_reducible repeat (first | refine blk_drewN ?_ _ | refine blk_drew ?_ | refine blk_alloc ?_ _)); refine blk_put (cs := #[.int .i64 ((rd_T41 l0_1 x10_2).f0), .int .i64 ((rd_T41 l0_1 x10_2).f1), .int .i64 0]) ?_ 2 _ rfl; (with_reducible repeat (first | refine blk_drewN ?_ _ | refine blk_drew ?_ | refine blk_alloc ?_ _)); refine blk_put (cs := #[.int .i64 ((rd_T41 l0_1 x10_2).f0), .int .i64 0, .int .i64 0]) ?_ 1 _ rfl; (with_reducible repeat (first | refine blk_drewN ?_ _ | refine blk_drew ?_ | refine blk_alloc ?_ _)); refine blk_put (cs := #[.int .i64 0, .int .i64 0, .int .i64 0]) ?_ 0 _ rfl; (with_reducible repeat (first | refine blk_drewN ?_ _ | refine blk_drew ?_ | refine blk_alloc ?_ _)); exact BK118.out⟩
                 have n4_ : Aside0 (Below w.heap.size w (((w113.setCell ⟨gb118, 0, none⟩ (.int .i64 ((rd_T41 l0_1 x10_2).f0))).setCell ⟨gb118, 1, none⟩ (.int .i64 ((rd_T41 l0_1 x10_2).f1))).setCell ⟨gb118, 2, none⟩ (.int .i64 ((rd_T41 l0_1 x10_2).f2)))) := ⟨belowNow⟩
                 (try clear BK106)
                 (try clear BK107)
                 (try clear BK114)
                 (try clear BK118)
                 (try clear HB)
                 generalize (((w113.setCell ⟨gb118, 0, none⟩ (.int .i64 ((rd_T41 l0_1 x10_2).f0))).setCell ⟨gb118, 1, none⟩ (.int .i64 ((rd_T41 l0_1 x10_2).f1))).setCell ⟨gb118, 2, none⟩ (.int .i64 ((rd_T41 l0_1 x10_2).f2))) = w118 at n0_ n1_ n2_ n3_ n4_ ⊢
                 have BK106 := n0_
                 have BK107 := n1_
                 have BK114 := n2_
                 have BK118 := n3_
                 have HB := n4_
                 clear n0_ n1_ n2_ n3_ n4_
                 have n0_ := Aside0.mk (blk_drew BK106.out)
                 have n1_ := Aside0.mk (blk_drew BK107.out)
                 have n2_ := Aside0.mk (blk_drew BK114.out)
                 have n3_ := Aside0.mk (blk_drew BK118.out)
                 have n4_ := Aside0.mk (below_drew1 HB.out)
                 clear BK106
                 clear BK107
                 clear BK114
                 clear BK118
                 clear HB
                 have BK106 := n0_
                 have BK107 := n1_
                 have BK114 := n2_
                 have BK118 := n3_
                 have HB := n4_
                 clear n0_ n1_ n2_ n3_ n4_
                 refine start_ (n := 10) (S := fun w' => w'.cell? ⟨gb114, 0, none⟩ = some (.int .i64 ((rd_T41 l0_1 x62_2).f0)) ∧ w'.cell? ⟨gb114, 1, none⟩ = some (.int .i64 ((rd_T41 l0_1 x62_2).f1)) ∧ w'.cell? ⟨gb114, 2, none⟩ = some (.int .i64 ((rd_T41 l0_1 x62_2).f2)) ∧ w'.cell? ⟨gb118, 0, none⟩ = some (.int .i64 ((rd_T41 l0_1 x10_2).f0)) ∧ w'.cell? ⟨gb118, 1, none⟩ = some (.int .i64 ((rd_T41 l0_1 x10_2).f1)) ∧ w'.cell? ⟨gb118, 2, none⟩ = some (.int .i64 ((rd_T41 l0_1 x10_2).f2))) (ds := []) #[false, false, false, false, false, false, false, false, false, false] (by kernel_rfl) rfl rfl ⟨(blk_cell BK114.out 0).trans rfl, (blk_cell BK114.out 1).trans rfl, (blk_cell BK114.out 2).trans rfl, (blk_cell BK118.out 0).trans rfl, (blk_cell BK118.out 1).trans rfl, (blk_cell BK118.out 2).trans rfl⟩ (fun hHeld => ?_); refine with_tabW impl_Desk_next.tab21 impl_Desk_next.bits21 (fun HT_ HW_ => ?_)
                 generalize w118.drew = w119 at BK106 BK107 BK114 BK118 HB hHeld ⊢
                 refine pure_ (i := 0) (N := some 83) (v := ?_) (a' := ?_) #[true, false, false, false, false, false, false, false, false, false] rfl rfl (any_of HT_.out (by kernel_rfl)) (fun _ _ _ h => h) (Or.inl ⟨by rfl, ?_⟩) ?_ ?_
                 rotate_left
                 ·intro w'
                  go_simp
                  with_reducible rfl
                 rotate_left
                 ·simp only [Act.put, List.setIfInBounds_toArray, List.set_cons_zero, List.set_cons_succ, i64_w, i32_w]
                  rfl
                 refine pure_ (i := 4) (N := some 87) (v := ?_) (a' := ?_) #[true, false, false, false, true, false, false, false, false, false] rfl rfl (any_of HT_.out (by kernel_rfl)) (fun _ _ _ h => h) (Or.inl ⟨by rfl, ?_⟩) ?_ ?_
                 rotate_left
                 ·intro w'
                  go_simp
                  with_reducible rfl
                 rotate_left
                 ·simp only [Act.put, List.setIfInBounds_toArray, List.set_cons_zero, List.set_cons_succ, i64_w, i32_w]
                  rfl
                 refine take_ (i := 1) (N := some 84) (v := ?_) (a' := ?_) #[true, true, false, false, true, false, false, false, false, false] rfl rfl (take_ofW HT_.out HW_.out (by kernel_rfl)) (fun _ _ _ h => h) (Or.inl ⟨by rfl, ?_⟩) hHeld ?_ ?_
                 rotate_left
                 ·rintro w' ⟨s0, s1, s2, s3, s4, s5⟩
                  go_simp
                  with_reducible rfl
                 rotate_left
                 ·simp only [Act.put, List.setIfInBounds_toArray, List.set_cons_zero, List.set_cons_succ, i64_w, i32_w]
                  rfl
                 refine pure_ (i := 2) (N := some 85) (v := ?_) (a' := ?_) #[true, true, true, false, true, false, false, false, false, false] rfl rfl (any_of HT_.out (by kernel_rfl)) (fun _ _ _ h => h) (Or.inl ⟨by rfl, ?_⟩) ?_ ?_
                 rotate_left
                 ·intro w'
                  go_simp
                  with_reducible rfl
                 rotate_left
                 ·simp only [Act.put, List.setIfInBounds_toArray, List.set_cons_zero, List.set_cons_succ, i64_w, i32_w]
                  rfl
                 refine take_ (i := 5) (N := some 88) (v := ?_) (a' := ?_) #[true, true, true, false, true, true, false, false, false, false] rfl rfl (take_ofW HT_.out HW_.out (by kernel_rfl)) (fun _ _ _ h => h) (Or.inl ⟨by rfl, ?_⟩) hHeld ?_ ?_
                 rotate_left
                 ·rintro w' ⟨s0, s1, s2, s3, s4, s5⟩
                  go_simp
                  with_reducible rfl
                 rotate_left
                 ·simp only [Act.put, List.setIfInBounds_toArray, List.set_cons_zero, List.set_cons_succ, i64_w, i32_w]
                  rfl
                 refine pure_ (i := 6) (N := some 89) (v := ?_) (a' := ?_) #[true, true, true, false, true, true, true, false, false, false] rfl rfl (any_of HT_.out (by kernel_rfl)) (fun _ _ _ h => h) (Or.inl ⟨by rfl, ?_⟩) ?_ ?_
                 rotate_left
                 ·intro w'
                  go_simp
                  with_reducible rfl
                 rotate_left
                 ·simp only [Act.put, List.setIfInBounds_toArray, List.set_cons_zero, List.set_cons_succ, i64_w, i32_w]
                  rfl
                 refine one_ (i := 3) (N := some 86) #[true, true, true, true, true, true, true, false, false, false] rfl rfl (one_of HT_.out (by kernel_rfl)) (by decide) (fun K hK => ?_)
                 refine goes_ Try.func74 (by kernel_rfl) rfl #[.int .u64 (IntKind.u64.wrap ((rd_T41 l0_1 x62_2).f0))] (by rfl) rfl rfl (by (try simp only [List.map_toArray, List.map_cons, List.map_nil]); first | done | rfl | (simp only [List.length_drop, List.length_take]; rfl)) ?_
                 with_reducible refine (bits_OnesCount.calls (IntKind.u64.wrap ((rd_T41 l0_1 x62_2).f0)) t119 _ A101.out).mono ?_
                 rintro e w' ⟨rfl, ⟨nd, rfl⟩⟩
                 refine ⟨_, rfl, ?_⟩
                 refine hK.out _ _ ⟨(blk_cell BK114.out 0).trans rfl, (blk_cell BK114.out 1).trans rfl, (blk_cell BK114.out 2).trans rfl, (blk_cell BK118.out 0).trans rfl, (blk_cell BK118.out 1).trans rfl, (blk_cell BK118.out 2).trans rfl⟩ (fun hHeld => ?_)
                 clear hK K
                 refine norm_ (a' := ?_) ?_ ?_
                 rotate_left
                 ·show Act.put _ (some 86) _ = _
                  simp only [Act.put, List.setIfInBounds_toArray, List.set_cons_zero, List.set_cons_succ, i64_w, i32_w]
                  rfl
                 refine one_ (i := 7) (N := some 90) #[true, true, true, true, true, true, true, true, false, false] rfl rfl (one_of HT_.out (by kernel_rfl)) (by decide) (fun K hK => ?_)
                 refine goes_ Try.func74 (by kernel_rfl) rfl #[.int .u64 (IntKind.u64.wrap ((rd_T41 l0_1 x10_2).f0))] (by rfl) rfl rfl (by (try simp only [List.map_toArray, List.map_cons, List.map_nil]); first | done | rfl | (simp only [List.length_drop, List.length_take]; rfl)) ?_
                 with_reducible refine (bits_OnesCount.calls (IntKind.u64.wrap ((rd_T41 l0_1 x10_2).f0)) t120 _ A102.out).mono ?_
                 rintro e w' ⟨rfl, ⟨nd, rfl⟩⟩
                 refine ⟨_, rfl, ?_⟩
                 refine hK.out _ _ ⟨(blk_cell BK114.out 0).trans rfl, (blk_cell BK114.out 1).trans rfl, (blk_cell BK114.out 2).trans rfl, (blk_cell BK118.out 0).trans rfl, (blk_cell BK118.out 1).trans rfl, (blk_cell BK118.out 2).trans rfl⟩ (fun hHeld => ?_)
                 clear hK K
                 refine norm_ (a' := ?_) ?_ ?_
                 rotate_left
                 ·show Act.put _ (some 90) _ = _
                  simp only [Act.put, List.setIfInBounds_toArray, List.set_cons_zero, List.set_cons_succ, i64_w, i32_w]
                  rfl
                 refine pure_ (i := 8) (N := some 14) (v := ?_) (a' := ?_) #[true, true, true, true, true, true, true, true, true, false] rfl rfl (any_of HT_.out (by kernel_rfl)) (fun _ _ _ h => h) (Or.inl ⟨by rfl, ?_⟩) ?_ ?_
                 rotate_left
                 ·intro w'
                  go_simp
                  with_reducible rfl
                 rotate_left
                 ·simp only [Act.put, List.setIfInBounds_toArray, List.set_cons_zero, List.set_cons_succ, i64_w, i32_w]
                  rfl
                 refine pure_ (i := 9) (N := some 15) (v := ?_) (a' := ?_) #[true, true, true, true, true, true, true, true, true, true] rfl rfl (any_of HT_.out (by kernel_rfl)) (fun _ _ _ h => h) (Or.inl ⟨by rfl, ?_⟩) ?_ ?_
                 rotate_left
                 ·intro w'
                  go_simp
                  with_reducible rfl
                 rotate_left
                 ·simp only [Act.put, List.setIfInBounds_toArray, List.set_cons_zero, List.set_cons_succ, i64_w, i32_w]
                  rfl
                 refine done_ (done_of HT_.out (by kernel_rfl)) ?_
                 try go_wp2
                 go_roundg k2
                 case measure => have := HK1.out; have := HK2.out; omega
                 case rel => exact ⟨(x10_2), (wrap64 (x62_2 + 1)), (by first | rfl | (simp; done) | (simp [*]; done)), (by first | rfl | (simp; done) | (simp [*]; done)), H', ⟨by have := HK1.out; have := HK2.out; omega⟩, ⟨by (with_reducible repeat (first | refine blk_drewN ?_ _ | refine blk_drew ?_ | refine blk_alloc ?_ _)); exact BK106.out⟩, ⟨by (with_reducible repeat (first | refine blk_drewN ?_ _ | refine blk_drew ?_ | refine blk_alloc ?_ _)); exact BK107.out⟩, ⟨belowNow⟩⟩
                ·rw [if_neg c103] at H
                 have c103b0 : decide (t120 < t119) = false := decide_eq_false c103
                 clear c103
                 by_cases c120 : t119 = t120
                 ·rw [if_pos c120] at H
                  have c120b0 : (t119 == t120) = true := beq_iff_eq.mpr c120
                  have c120b1 : (t119 != t120) = false := bne_eq_false_iff_eq.mpr c120
                  clear c120
                  by_cases c121 : ((rd_T41 l0_1 x62_2).f2) ≥ ((rd_T41 l0_1 x10_2).f2)
                  ·rw [if_pos c121] at H
                   have c121b0 : decide (((rd_T41 l0_1 x10_2).f2) ≤ ((rd_T41 l0_1 x62_2).f2)) = true := decide_eq_true c121
                   clear c121
                   have H' := Aside0.mk H
                   clear H
                   have p113 : 0 ≤ (x62_2 : Int) := of_decide_eq_true (by first | (with_reducible assumption) | assumption)
                   have q113 : x62_2 < (l0_1.length : Int) := of_decide_eq_true (by first | (with_reducible assumption) | assumption)
                   obtain ⟨ad113, e113, hx113_0, hx113_1, hx113_2⟩ := at_T41 HR0_1.out x62_2 p113 q113
                   cases e113
                   replace hx113_0 := (HB.out.cell (World.block_lt_of_cell? w _ hx113_0)).trans hx113_0
                   replace hx113_1 := (HB.out.cell (World.block_lt_of_cell? w _ hx113_1)).trans hx113_1
                   replace hx113_2 := (HB.out.cell (World.block_lt_of_cell? w _ hx113_2)).trans hx113_2
                   replace p113 := eq_true p113
                   replace q113 := eq_true q113
                   try go_wp2_with (first | ((with_reducible refine gate_dst (N := 12) rfl ?_); refine box_event ?hg (N := 12) ?hd (cs := #[.int .i64 0, .int .i64 0, .int .i64 0]) (t := 41) ?hr ?_; (case hd => rfl); (case hg => rfl); (case hr => first | (go_simp; done) | (go_simp; rfl)); intro gb114 hg w122 hbox hb; have n0_ := Aside0.mk (blkStep (g := gb106) hb); have n1_ := Aside0.mk (blkStep (g := gb107) hb); have n2_ := Aside0.mk (below_step belowNow hb); have n3_ := Aside0.mk (hbox); have n4_ := Aside0.mk ((by rw [hg]; exact (below_size belowNow) : w.heap.size ≤ gb114)); have n5_ := n4_; have n6_ := Aside0.mk ((by rw [hg]; exact Nat.ne_of_lt (blkLt (g := gb106)) : gb106 ≠ gb114)); have n7_ := Aside0.mk ((by rw [hg]; exact Nat.ne_of_gt (blkLt (g := gb106)) : gb114 ≠ gb106)); have n8_ := Aside0.mk ((by rw [hg]; exact Nat.ne_of_lt (blkLt (g := gb107)) : gb107 ≠ gb114)); have n9_ := Aside0.mk ((by rw [hg]; exact Nat.ne_of_gt (blkLt (g := gb107)) : gb114 ≠ gb107)); clear BK106; clear BK107; clear HB; have BK106 := n0_; have BK107 := n1_; have HB := n2_; have BK114 := n3_; have GW114 := n4_; have GE114 := n5_; have NB106_114 := n6_; have NB114_106 := n7_; have NB107_114 := n8_; have NB114_107 := n9_; clear n0_ n1_ n2_ n3_ n4_ n5_ n6_ n7_ n8_ n9_; clear hb hbox hg; have hnb123 := NB114_106.out; have hnc123 := NB106_114.out; have hnb124 := NB114_107.out; have hnc124 := NB107_114.out; have hcz125_0 : w122.cell? ⟨gb114, 0, none⟩ = some (.int .i64 0) := (blk_cell BK114.out 0).trans rfl; have hcz125_1 : w122.cell? ⟨gb114, 1, none⟩ = some (.int .i64 0) := (blk_cell BK114.out 1).trans rfl; have hcz125_2 : w122.cell? ⟨gb114, 2, none⟩ = some (.int .i64 0) := (blk_cell BK114.out 2).trans rfl; have hfz125_0 := blk_frozen BK114.out 0; have hfz125_1 := blk_frozen BK114.out 1; have hfz125_2 := blk_frozen BK114.out 2))
                   have n0_ : Aside0 ((((w122.setCell ⟨gb114, 0, none⟩ (.int .i64 ((rd_T41 l0_1 x62_2).f0))).setCell ⟨gb114, 1, none⟩ (.int .i64 ((rd_T41 l0_1 x62_2).f1))).setCell ⟨gb114, 2, none⟩ (.int .i64 ((rd_T41 l0_1 x62_2).f2))).heap[gb106]? = some (.cells #[.int .i64 a0_0, .slice (some ad113) l0_1.length c0_1, .slice A0_2 l0_2.length c0_2, .int .i64 a0_3] 31 (0, 0))) := ⟨blkFars⟩
                   have n1_ : Aside0 ((((w122.setCell ⟨gb114, 0, none⟩ (.int .i64 ((rd_T41 l0_1 x62_2).f0))).setCell ⟨gb114, 1, none⟩ (.int .i64 ((rd_T41 l0_1 x62_2).f1))).setCell ⟨gb114, 2, none⟩ (.int .i64 ((rd_T41 l0_1 x62_2).f2))).heap[gb107]? = some (.cells #[.func (.func 72) #[] #[]] 106 (0, 0))) := ⟨blkFars⟩
                   have n2_ : Aside0 ((((w122.setCell ⟨gb114, 0, none⟩ (.int .i64 ((rd_T41 l0_1 x62_2).f0))).setCell ⟨gb114, 1, none⟩ (.int .i64 ((rd_T41 l0_1 x62_2).f1))).setCell ⟨gb114, 2, none⟩ (.int .i64 ((rd_T41 l0_1 x62_2).f2))).heap[gb114]? = some (.cells #[.int .i64 ((rd_T41 l0_1 x62_2).f0), .int .i64 ((rd_T41 l0_1 x62_2).f1), .int .i64 ((rd_T41 l0_1 x62_2).f2)] 41 (0, 0))) := ⟨by (with_reducible repeat (first | refine blk_drewN ?_ _ | refine blk_drew ?_ | refine blk_alloc ?_ _)); refine blk_put (cs := #[.int .i64 ((rd_T41 l0_1 x62_2).f0), .int .i64 ((rd_T41 l0_1 x62_2).f1), .int .i64 0]) ?_ 2 _ rfl; (with_reducible repeat (first | refine blk_drewN ?_ _ | refine blk_drew ?_ | refine blk_alloc ?_ _)); refine blk_put (cs := #[.int .i64 ((rd_T41 l0_1 x62_2).f0), .int .i64 0, .int .i64 0]) ?_ 1 _ rfl; (with_reducible repeat (first | refine blk_drewN ?_ _ | refine blk_drew ?_ | refine blk_alloc ?_ _)); refine blk_put (cs := #[.int .i64 0, .int .i64 0, .int .i64 0]) ?_ 0 _ rfl; (with_reducible repeat (first | refine blk_drewN ?_ _ | refine blk_drew ?_ | refine blk_alloc ?_ _)); exact BK114.out⟩
                   have n3_ : Aside0 (Below w.heap.size w (((w122.setCell ⟨gb114, 0, none⟩ (.int .i64 ((rd_T41 l0_1 x62_2).f0))).setCell ⟨gb114, 1, none⟩ (.int .i64 ((rd_T41 l0_1 x62_2).f1))).setCell ⟨gb114, 2, none⟩ (.int .i64 ((rd_T41 l0_1 x62_2).f2)))) := ⟨belowNow⟩
                   (try clear BK106)
                   (try clear BK107)
                   (try clear BK114)
                   (try clear HB)
                   generalize (((w122.setCell ⟨gb114, 0, none⟩ (.int .i64 ((rd_T41 l0_1 x62_2).f0))).setCell ⟨gb114, 1, none⟩ (.int .i64 ((rd_T41 l0_1 x62_2).f1))).setCell ⟨gb114, 2, none⟩ (.int .i64 ((rd_T41 l0_1 x62_2).f2))) = w126 at n0_ n1_ n2_ n3_ ⊢
                   have BK106 := n0_
                   have BK107 := n1_
                   have BK114 := n2_
                   have HB := n3_
                   clear n0_ n1_ n2_ n3_
                   have n0_ := Aside0.mk (blk_drew BK106.out)
                   have n1_ := Aside0.mk (blk_drew BK107.out)
                   have n2_ := Aside0.mk (blk_drew BK114.out)
                   have n3_ := Aside0.mk (below_drew1 HB.out)
                   clear BK106
                   clear BK107
                   clear BK114
                   clear HB
                   have BK106 := n0_
                   have BK107 := n1_
                   have BK114 := n2_
                   have HB := n3_
                   clear n0_ n1_ n2_ n3_
                   have p115 : 0 ≤ (x5_1 : Int) := of_decide_eq_true (by first | (with_reducible assumption) | assumption)
                   have q115 : x5_1 < (l0_2.length : Int) := of_decide_eq_true (by first | (with_reducible assumption) | assumption)
                   obtain ⟨ad115, e115, hx115_0, hx115_1, hx115_2, hx115_3⟩ := at_T70 HR0_2.out x5_1 p115 q115
                   have hw115_3 := hx115_3
                   have hw115_2 := hx115_2
                   have hw115_1 := hx115_1
                   have hw115_0 := hx115_0
                   cases e115
                   replace hx115_0 := (HB.out.cell (World.block_lt_of_cell? w _ hx115_0)).trans hx115_0
                   replace hx115_1 := (HB.out.cell (World.block_lt_of_cell? w _ hx115_1)).trans hx115_1
                   replace hx115_2 := (HB.out.cell (World.block_lt_of_cell? w _ hx115_2)).trans hx115_2
                   replace hx115_3 := (HB.out.cell (World.block_lt_of_cell? w _ hx115_3)).trans hx115_3
                   replace p115 := eq_true p115
                   replace q115 := eq_true q115
                   refine start_ (n := 9) (S := fun w' => w'.cell? ⟨gb107, 0, none⟩ = some (.func (.func 72) #[] #[]) ∧ True ∧ True ∧ w'.cell? ⟨gb106, 0, none⟩ = some (.int .i64 a0_0) ∧ w'.cell? ⟨gb106, 1, none⟩ = some (.slice (some ad113) l0_1.length c0_1) ∧ w'.cell? ⟨gb106, 2, none⟩ = some (.slice (some ad115) l0_2.length c0_2) ∧ w'.cell? ⟨gb106, 3, none⟩ = some (.int .i64 a0_3) ∧ w'.cell? ⟨gb114, 0, none⟩ = some (.int .i64 ((rd_T41 l0_1 x62_2).f0)) ∧ w'.cell? ⟨gb114, 1, none⟩ = some (.int .i64 ((rd_T41 l0_1 x62_2).f1)) ∧ w'.cell? ⟨gb114, 2, none⟩ = some (.int .i64 ((rd_T41 l0_1 x62_2).f2)) ∧ w'.cell? (ad115.add ((x5_1).toNat * 4)) = some (.int .i64 ((rd_T70 l0_2 x5_1).f0)) ∧ w'.cell? ⟨(ad115.add ((x5_1).toNat * 4)).block, (ad115.add ((x5_1).toNat * 4)).off + 1, none⟩ = some (.int .i64 ((rd_T70 l0_2 x5_1).f1)) ∧ w'.cell? ⟨(ad115.add ((x5_1).toNat * 4)).block, (ad115.add ((x5_1).toNat * 4)).off + 2, none⟩ = some (.int .i64 ((rd_T70 l0_2 x5_1).f2)) ∧ w'.cell? ⟨(ad115.add ((x5_1).toNat * 4)).block, (ad115.add ((x5_1).toNat * 4)).off + 3, none⟩ = some (.int .i64 ((rd_T70 l0_2 x5_1).f3))) (ds := []) #[false, false, false, false, false, false, false, false, false] (by kernel_rfl) rfl rfl ⟨(blk_cell BK107.out 0).trans rfl, trivial, trivial, (blk_cell BK106.out 0).trans rfl, (blk_cell BK106.out 1).trans rfl, (blk_cell BK106.out 2).trans rfl, (blk_cell BK106.out 3).trans rfl, (blk_cell BK114.out 0).trans rfl, (blk_cell BK114.out 1).trans rfl, (blk_cell BK114.out 2).trans rfl, ((HB.out.cell (World.block_lt_of_cell? w _ hw115_0)).trans hw115_0), ((HB.out.cell (World.block_lt_of_cell? w _ hw115_1)).trans hw115_1), ((HB.out.cell (World.block_lt_of_cell? w _ hw115_2)).trans hw115_2), ((HB.out.cell (World.block_lt_of_cell? w _ hw115_3)).trans hw115_3)⟩ (fun hHeld => ?_); refine with_tabW impl_Desk_next.tab18 impl_Desk_next.bits18 (fun HT_ HW_ => ?_)
                   generalize w126.drew = w127 at BK106 BK107 BK114 HB hx115_0 hx115_1 hx115_2 hx115_3 hHeld ⊢
                   refine pure_ (i := 1) (N := some 68) (v := ?_) (a' := ?_) #[false, true, false, false, false, false, false, false, false] rfl rfl (any_of HT_.out (by kernel_rfl)) (fun _ _ _ h => h) (Or.inl ⟨by rfl, ?_⟩) ?_ ?_
                   rotate_left
                   ·intro w'
                    go_simp
                    with_reducible rfl
                   rotate_left
                   ·simp only [Act.put, List.setIfInBounds_toArray, List.set_cons_zero, List.set_cons_succ, i64_w, i32_w]
                    rfl
                   refine pure_ (i := 3) (N := some 70) (v := ?_) (a' := ?_) #[false, true, false, true, false, false, false, false, false] rfl rfl (any_of HT_.out (by kernel_rfl)) (fun _ _ _ h => h) (Or.inl ⟨by rfl, ?_⟩) ?_ ?_
                   rotate_left
                   ·intro w'
                    go_simp
                    with_reducible rfl
                   rotate_left
                   ·simp only [Act.put, List.setIfInBounds_toArray, List.set_cons_zero, List.set_cons_succ, i64_w, i32_w]
                    rfl
                   refine take_ (i := 0) (N := some 67) (v := ?_) (a' := ?_) #[true, true, false, true, false, false, false, false, false] rfl rfl (take_ofW HT_.out HW_.out (by kernel_rfl)) (fun _ _ _ h => h) (Or.inl ⟨by rfl, ?_⟩) hHeld ?_ ?_
                   rotate_left
                   ·rintro w' ⟨s0, s1, s2, s3, s4, s5, s6, s7, s8, s9, s10, s11, s12, s13⟩
                    go_simp
                    with_reducible rfl
                   rotate_left
                   ·simp only [Act.put, List.setIfInBounds_toArray, List.set_cons_zero, List.set_cons_succ, i64_w, i32_w]
                    rfl
                   refine take_ (i := 2) (N := some 69) (v := ?_) (a' := ?_) #[true, true, true, true, false, false, false, false, false] rfl rfl (take_ofW HT_.out HW_.out (by kernel_rfl)) (fun _ _ _ h => h) (Or.inl ⟨by rfl, ?_⟩) hHeld ?_ ?_
                   rotate_left
                   ·rintro w' ⟨s0, s1, s2, s3, s4, s5, s6, s7, s8, s9, s10, s11, s12, s13⟩
                    go_simp
                    with_reducible rfl
                   rotate_left
                   ·simp only [Act.put, List.setIfInBounds_toArray, List.set_cons_zero, List.set_cons_succ, i64_w, i32_w]
                    rfl
                   refine pure_ (i := 4) (N := some 71) (v := ?_) (a' := ?_) #[true, true, true, true, true, false, false, false, false] rfl rfl (any_of HT_.out (by kernel_rfl)) (fun _ _ _ h => h) (Or.inl ⟨by rfl, ?_⟩) ?_ ?_
                   rotate_left
                   ·intro w'
                    go_simp
                    with_reducible rfl
                   rotate_left
                   ·simp only [Act.put, List.setIfInBounds_toArray, List.set_cons_zero, List.set_cons_succ, i64_w, i32_w]
                    rfl
                   refine take_ (i := 5) (N := some 72) (v := ?_) (a' := ?_) #[true, true, true, true, true, true, false, false, false] rfl rfl (take_ofW HT_.out HW_.out (by kernel_rfl)) (fun _ _ _ h => h) (Or.inl ⟨by rfl, ?_⟩) hHeld ?_ ?_
                   rotate_left
                   ·rintro w' ⟨s0, s1, s2, s3, s4, s5, s6, s7, s8, s9, s10, s11, s12, s13⟩
                    go_simp
                    with_reducible rfl
                   rotate_left
                   ·simp only [Act.put, List.setIfInBounds_toArray, List.set_cons_zero, List.set_cons_succ, i64_w, i32_w]
                    rfl
                   refine take_ (i := 6) (N := some 73) (v := ?_) (a' := ?_) #[true, true, true, true, true, true, true, false, false] rfl rfl (take_ofW HT_.out HW_.out (by kernel_rfl)) (fun _ _ _ h => h) (Or.inl ⟨by rfl, ?_⟩) hHeld ?_ ?_
                   rotate_left
                   ·rintro w' ⟨s0, s1, s2, s3, s4, s5, s6, s7, s8, s9, s10, s11, s12, s13⟩
                    go_simp
                    with_reducible rfl
                   rotate_left
                   ·simp only [Act.put, List.setIfInBounds_toArray, List.set_cons_zero, List.set_cons_succ, i64_w, i32_w]
                    rfl
                   refine one_ (i := 7) (N := some 74) #[true, true, true, true, true, true, true, true, false] rfl rfl (one_of HT_.out (by kernel_rfl)) (by decide) (fun K hK => ?_)
                   refine Clo.goesF_ (p := 67) rfl Try.func72 (by kernel_rfl) rfl #[.agg #[.int .i64 ((rd_T70 l0_2 x5_1).f0), .int .i64 ((rd_T70 l0_2 x5_1).f1), .int .i64 ((rd_T70 l0_2 x5_1).f2), .int .i64 ((rd_T70 l0_2 x5_1).f3)], .agg #[.int .i64 ((rd_T41 l0_1 x62_2).f0), .int .i64 ((rd_T41 l0_1 x62_2).f1), .int .i64 ((rd_T41 l0_1 x62_2).f2)]] (by rfl) rfl rfl (by (try simp only [List.map_toArray, List.map_cons, List.map_nil]); first | done | rfl | (simp only [List.length_drop, List.length_take]; rfl)) ?_
                   with_reducible refine (impl_Desk_next_1.calls ((rd_T70 l0_2 x5_1).f0) ((rd_T70 l0_2 x5_1).f1) ((rd_T70 l0_2 x5_1).f2) ((rd_T70 l0_2 x5_1).f3) ((rd_T41 l0_1 x62_2).f0) ((rd_T41 l0_1 x62_2).f1) ((rd_T41 l0_1 x62_2).f2) true _ A96.out).mono ?_
                   rintro e w128 ⟨rfl, hb⟩
                   refine ⟨_, rfl, ?_⟩
                   have n0_ := Aside0.mk (blkStep (g := gb106) hb)
                   have n1_ := Aside0.mk (blkStep (g := gb107) hb)
                   have n2_ := Aside0.mk (blkStep (g := gb114) hb)
                   have n3_ := Aside0.mk (below_step belowNow hb)
                   clear BK106
                   clear BK107
                   clear BK114
                   clear HB
                   have BK106 := n0_
                   have BK107 := n1_
                   have BK114 := n2_
                   have HB := n3_
                   clear n0_ n1_ n2_ n3_
                   (try clear hb)
                   (try clear hb2)
                   (try clear hk)
                   (try clear hi)
                   refine hK.out _ _ ⟨(blk_cell BK107.out 0).trans rfl, trivial, trivial, (blk_cell BK106.out 0).trans rfl, (blk_cell BK106.out 1).trans rfl, (blk_cell BK106.out 2).trans rfl, (blk_cell BK106.out 3).trans rfl, (blk_cell BK114.out 0).trans rfl, (blk_cell BK114.out 1).trans rfl, (blk_cell BK114.out 2).trans rfl, ((HB.out.cell (World.block_lt_of_cell? w _ hw115_0)).trans hw115_0), ((HB.out.cell (World.block_lt_of_cell? w _ hw115_1)).trans hw115_1), ((HB.out.cell (World.block_lt_of_cell? w _ hw115_2)).trans hw115_2), ((HB.out.cell (World.block_lt_of_cell? w _ hw115_3)).trans hw115_3)⟩ (fun hHeld => ?_)
                   clear hK K
                   refine norm_ (a' := ?_) ?_ ?_
                   rotate_left
                   ·show Act.put _ (some 74) _ = _
                    simp only [Act.put, List.setIfInBounds_toArray, List.set_cons_zero, List.set_cons_succ, i64_w, i32_w]
                    rfl
                   refine pure_ (i := 8) (N := some 75) (v := ?_) (a' := ?_) #[true, true, true, true, true, true, true, true, true] rfl rfl (any_of HT_.out (by kernel_rfl)) (fun _ _ _ h => h) (Or.inl ⟨by rfl, ?_⟩) ?_ ?_
                   rotate_left
                   ·intro w'
                    go_simp
                    with_reducible rfl
                   rotate_left
                   ·simp only [Act.put, List.setIfInBounds_toArray, List.set_cons_zero, List.set_cons_succ, i64_w, i32_w]
                    rfl
                   refine done_ (done_of HT_.out (by kernel_rfl)) ?_
                   have hnb129 := NB106_107.out
                   have hnc129 := NB107_106.out
                   have hcz130_0 : w128.cell? ⟨gb106, 0, none⟩ = some (.int .i64 a0_0) := (blk_cell BK106.out 0).trans rfl
                   have hcz130_1 : w128.cell? ⟨gb106, 1, none⟩ = some (.slice (some ad113) l0_1.length c0_1) := (blk_cell BK106.out 1).trans rfl
                   have hcz130_2 : w128.cell? ⟨gb106, 2, none⟩ = some (.slice (some ad115) l0_2.length c0_2) := (blk_cell BK106.out 2).trans rfl
                   have hcz130_3 : w128.cell? ⟨gb106, 3, none⟩ = some (.int .i64 a0_3) := (blk_cell BK106.out 3).trans rfl
                   have hfz130_0 := blk_frozen BK106.out 0
                   have hfz130_1 := blk_frozen BK106.out 1
                   have hfz130_2 := blk_frozen BK106.out 2
                   have hfz130_3 := blk_frozen BK106.out 3
                   have p117 : 0 ≤ (x10_2 : Int) := of_decide_eq_true (by first | (with_reducible assumption) | assumption)
                   have q117 : x10_2 < (l0_1.length : Int) := of_decide_eq_true (by first | (with_reducible assumption) | assumption)
                   obtain ⟨ad117, e117, hx117_0, hx117_1, hx117_2⟩ := at_T41 HR0_1.out x10_2 p117 q117
                   obtain rfl : ad113 = ad117 := (by injection e117)
                   replace hx117_0 := (HB.out.cell (World.block_lt_of_cell? w _ hx117_0)).trans hx117_0
                   replace hx117_1 := (HB.out.cell (World.block_lt_of_cell? w _ hx117_1)).trans hx117_1
                   replace hx117_2 := (HB.out.cell (World.block_lt_of_cell? w _ hx117_2)).trans hx117_2
                   replace p117 := eq_true p117
                   replace q117 := eq_true q117
                   try go_wp2_with (first | ((with_reducible refine gate_dst (N := 13) rfl ?_); refine box_event ?hg (N := 13) ?hd (cs := #[.int .i64 0, .int .i64 0, .int .i64 0]) (t := 41) ?hr ?_; (case hd => rfl); (case hg => rfl); (case hr => first | (go_simp; done) | (go_simp; rfl)); intro gb118 hg w131 hbox hb; have n0_ := Aside0.mk (blkStep (g := gb106) hb); have n1_ := Aside0.mk (blkStep (g := gb107) hb); have n2_ := Aside0.mk (blkStep (g := gb114) hb); have n3_ := Aside0.mk (below_step belowNow hb); have n4_ := Aside0.mk (hbox); have n5_ := Aside0.mk ((by rw [hg]; exact (below_size belowNow) : w.heap.size ≤ gb118)); have n6_ := n5_; have n7_ := Aside0.mk ((by rw [hg]; exact Nat.ne_of_lt (blkLt (g := gb106)) : gb106 ≠ gb118)); have n8_ := Aside0.mk ((by rw [hg]; exact Nat.ne_of_gt (blkLt (g := gb106)) : gb118 ≠ gb106)); have n9_ := Aside0.mk ((by rw [hg]; exact Nat.ne_of_lt (blkLt (g := gb107)) : gb107 ≠ gb118)); have n10_ := Aside0.mk ((by rw [hg]; exact Nat.ne_of_gt (blkLt (g := gb107)) : gb118 ≠ gb107)); have n11_ := Aside0.mk ((by rw [hg]; exact Nat.ne_of_lt (blkLt (g := gb114)) : gb114 ≠ gb118)); have n12_ := Aside0.mk ((by rw [hg]; exact Nat.ne_of_gt (blkLt (g := gb114)) : gb118 ≠ gb114)); clear BK106; clear BK107; clear BK114; clear HB; have BK106 := n0_; have BK107 := n1_; have BK114 := n2_; have HB := n3_; have BK118 := n4_; have GW118 := n5_; have GE118 := n6_; have NB106_118 := n7_; have NB118_106 := n8_; have NB107_118 := n9_; have NB118_107 := n10_; have NB114_118 := n11_; have NB118_114 := n12_; clear n0_ n1_ n2_ n3_ n4_ n5_ n6_ n7_ n8_ n9_ n10_ n11_ n12_; clear hb hbox hg; have hnb132 := NB118_106.out; have hnc132 := NB106_118.out; have hnb133 := NB118_107.out; have hnc133 := NB107_118.out; have hnb134 := NB118_114.out; have hnc134 := NB114_118.out; have hcz135_0 : w131.cell? ⟨gb118, 0, none⟩ = some (.int .i64 0) := (blk_cell BK118.out 0).trans rfl; have hcz135_1 : w131.cell? ⟨gb118, 1, none⟩ = some (.int .i64 0) := (blk_cell BK118.out 1).trans rfl; have hcz135_2 : w131.cell? ⟨gb118, 2, none⟩ = some (.int .i64 0) := (blk_cell BK118.out 2).trans rfl; have hfz135_0 := blk_frozen BK118.out 0; have hfz135_1 := blk_frozen BK118.out 1; have hfz135_2 := blk_frozen BK118.out 2))
                   have n0_ : Aside0 ((((w131.setCell ⟨gb118, 0, none⟩ (.int .i64 ((rd_T41 l0_1 x10_2).f0))).setCell ⟨gb118, 1, none⟩ (.int .i64 ((rd_T41 l0_1 x10_2).f1))).setCell ⟨gb118, 2, none⟩ (.int .i64 ((rd_T41 l0_1 x10_2).f2))).heap[gb106]? = some (.cells #[.int .i64 a0_0, .slice (some ad113) l0_1.length c0_1, .slice (some ad115) l0_2.length c0_2, .int .i64 a0_3] 31 (0, 0))) := ⟨blkFars⟩
                   have n1_ : Aside0 ((((w131.setCell ⟨gb118, 0, none⟩ (.int .i64 ((rd_T41 l0_1 x10_2).f0))).setCell ⟨gb118, 1, none⟩ (.int .i64 ((rd_T41 l0_1 x10_2).f1))).setCell ⟨gb118, 2, none⟩ (.int .i64 ((rd_T41 l0_1 x10_2).f2))).heap[gb107]? = some (.cells #[.func (.func 72) #[] #[]] 106 (0, 0))) := ⟨blkFars⟩
                   have n2_ : Aside0 ((((w131.setCell ⟨gb118, 0, none⟩ (.int .i64 ((rd_T41 l0_1 x10_2).f0))).setCell ⟨gb118, 1, none⟩ (.int .i64 ((rd_T41 l0_1 x10_2).f1))).setCell ⟨gb118, 2, none⟩ (.int .i64 ((rd_T41 l0_1 x10_2).f2))).heap[gb114]? = some (.cells #[.int .i64 ((rd_T41 l0_1 x62_2).f0), .int .i64 ((rd_T41 l0_1 x62_2).f1), .int .i64 ((rd_T41 l0_1 x62_2).f2)] 41 (0, 0))) := ⟨blkFars⟩
                   have n3_ : Aside0 ((((w131.setCell ⟨gb118, 0, none⟩ (.int .i64 ((rd_T41 l0_1 x10_2).f0))).setCell ⟨gb118, 1, none⟩ (.int .i64 ((rd_T41 l0_1 x10_2).f1))).setCell ⟨gb118, 2, none⟩ (.int .i64 ((rd_T41 l0_1 x10_2).f2))).heap[gb118]? = some (.cells #[.int .i64 ((rd_T41 l0_1 x10_2).f0), .int .i64 ((rd_T41 l0_1 x10_2).f1), .int .i64 ((rd_T41 l0_1 x10_2).f2)] 41 (0, 0))) := ⟨by (with_reducible repeat (first | refine blk_drewN ?_ _ | refine blk_drew ?_ | refine blk_alloc ?_ _)); refine blk_put (cs := #[.int .i64 ((rd_T41 l0_1 x10_2).f0), .int .i64 ((rd_T41 l0_1 x10_2).f1), .int .i64 0]) ?_ 2 _ rfl; (with_reducible repeat (first | refine blk_drewN ?_ _ | refine blk_drew ?_ | refine blk_alloc ?_ _)); refine blk_put (cs := #[.int .i64 ((rd_T41 l0_1 x10_2).f0), .int .i64 0, .int .i64 0]) ?_ 1 _ rfl; (with_reducible repeat (first | refine blk_drewN ?_ _ | refine blk_drew ?_ | refine blk_alloc ?_ _)); refine blk_put (cs := #[.int .i64 0, .int .i64 0, .int .i64 0]) ?_ 0 _ rfl; (with_reducible repeat (first | refine blk_drewN ?_ _ | refine blk_drew ?_ | refine blk_alloc ?_ _)); exact BK118.out⟩
                   have n4_ : Aside0 (Below w.heap.size w (((w131.setCell ⟨gb118, 0, none⟩ (.int .i64 ((rd_T41 l0_1 x10_2).f0))).setCell ⟨gb118, 1, none⟩ (.int .i64 ((rd_T41 l0_1 x10_2).f1))).setCell ⟨gb118, 2, none⟩ (.int .i64 ((rd_T41 l0_1 x10_2).f2)))) := ⟨belowNow⟩
                   (try clear BK106)
                   (try clear BK107)
                   (try clear BK114)
                   (try clear BK118)
                   (try clear HB)
                   generalize (((w131.setCell ⟨gb118, 0, none⟩ (.int .i64 ((rd_T41 l0_1 x10_2).f0))).setCell ⟨gb118, 1, none⟩ (.int .i64 ((rd_T41 l0_1 x10_2).f1))).setCell ⟨gb118, 2, none⟩ (.int .i64 ((rd_T41 l0_1 x10_2).f2))) = w136 at n0_ n1_ n2_ n3_ n4_ ⊢
                   have BK106 := n0_
                   have BK107 := n1_
                   have BK114 := n2_
                   have BK118 := n3_
                   have HB := n4_
                   clear n0_ n1_ n2_ n3_ n4_
                   have n0_ := Aside0.mk (blk_drew BK106.out)
                   have n1_ := Aside0.mk (blk_drew BK107.out)
                   have n2_ := Aside0.mk (blk_drew BK114.out)
                   have n3_ := Aside0.mk (blk_drew BK118.out)
                   have n4_ := Aside0.mk (below_drew1 HB.out)
                   clear BK106
                   clear BK107
                   clear BK114
                   clear BK118
                   clear HB
                   have BK106 := n0_
                   have BK107 := n1_
                   have BK114 := n2_
                   have BK118 := n3_
                   have HB := n4_
                   clear n0_ n1_ n2_ n3_ n4_
                   refine start_ (n := 10) (S := fun w' => w'.cell? ⟨gb114, 0, none⟩ = some (.int .i64 ((rd_T41 l0_1 x62_2).f0)) ∧ w'.cell? ⟨gb114, 1, none⟩ = some (.int .i64 ((rd_T41 l0_1 x62_2).f1)) ∧ w'.cell? ⟨gb114, 2, none⟩ = some (.int .i64 ((rd_T41 l0_1 x62_2).f2)) ∧ w'.cell? ⟨gb118, 0, none⟩ = some (.int .i64 ((rd_T41 l0_1 x10_2).f0)) ∧ w'.cell? ⟨gb118, 1, none⟩ = some (.int .i64 ((rd_T41 l0_1 x10_2).f1)) ∧ w'.cell? ⟨gb118, 2, none⟩ = some (.int .i64 ((rd_T41 l0_1 x10_2).f2))) (ds := []) #[false, false, false, false, false, false, false, false, false, false] (by kernel_rfl) rfl rfl ⟨(blk_cell BK114.out 0).trans rfl, (blk_cell BK114.out 1).trans rfl, (blk_cell BK114.out 2).trans rfl, (blk_cell BK118.out 0).trans rfl, (blk_cell BK118.out 1).trans rfl, (blk_cell BK118.out 2).trans rfl⟩ (fun hHeld => ?_); refine with_tabW impl_Desk_next.tab21 impl_Desk_next.bits21 (fun HT_ HW_ => ?_)
                   generalize w136.drew = w137 at BK106 BK107 BK114 BK118 HB hHeld ⊢
                   refine pure_ (i := 0) (N := some 83) (v := ?_) (a' := ?_) #[true, false, false, false, false, false, false, false, false, false] rfl rfl (any_of HT_.out (by kernel_rfl)) (fun _ _ _ h => h) (Or.inl ⟨by rfl, ?_⟩) ?_ ?_
                   rotate_left
                   ·intro w'
                    go_simp
                    with_reducible rfl
                   rotate_left
                   ·simp only [Act.put, List.setIfInBounds_toArray, List.set_cons_zero, List.set_cons_succ, i64_w, i32_w]
                    rfl
                   refine pure_ (i := 4) (N := some 87) (v := ?_) (a' := ?_) #[true, false, false, false, true, false, false, false, false, false] rfl rfl (any_of HT_.out (by kernel_rfl)) (fun _ _ _ h => h) (Or.inl ⟨by rfl, ?_⟩) ?_ ?_
                   rotate_left
                   ·intro w'
                    go_simp
                    with_reducible rfl
                   rotate_left
                   ·simp only [Act.put, List.setIfInBounds_toArray, List.set_cons_zero, List.set_cons_succ, i64_w, i32_w]
                    rfl
                   refine take_ (i := 1) (N := some 84) (v := ?_) (a' := ?_) #[true, true, false, false, true, false, false, false, false, false] rfl rfl (take_ofW HT_.out HW_.out (by kernel_rfl)) (fun _ _ _ h => h) (Or.inl ⟨by rfl, ?_⟩) hHeld ?_ ?_
                   rotate_left
                   ·rintro w' ⟨s0, s1, s2, s3, s4, s5⟩
                    go_simp
                    with_reducible rfl
                   rotate_left
                   ·simp only [Act.put, List.setIfInBounds_toArray, List.set_cons_zero, List.set_cons_succ, i64_w, i32_w]
                    rfl
                   refine pure_ (i := 2) (N := some 85) (v := ?_) (a' := ?_) #[true, true, true, false, true, false, false, false, false, false] rfl rfl (any_of HT_.out (by kernel_rfl)) (fun _ _ _ h => h) (Or.inl ⟨by rfl, ?_⟩) ?_ ?_
                   rotate_left
                   ·intro w'
                    go_simp
                    with_reducible rfl
                   rotate_left
                   ·simp only [Act.put, List.setIfInBounds_toArray, List.set_cons_zero, List.set_cons_succ, i64_w, i32_w]
                    rfl
                   refine take_ (i := 5) (N := some 88) (v := ?_) (a' := ?_) #[true, true, true, false, true, true, false, false, false, false] rfl rfl (take_ofW HT_.out HW_.out (by kernel_rfl)) (fun _ _ _ h => h) (Or.inl ⟨by rfl, ?_⟩) hHeld ?_ ?_
                   rotate_left
                   ·rintro w' ⟨s0, s1, s2, s3, s4, s5⟩
                    go_simp
                    with_reducible rfl
                   rotate_left
                   ·simp only [Act.put, List.setIfInBounds_toArray, List.set_cons_zero, List.set_cons_succ, i64_w, i32_w]
                    rfl
                   refine pure_ (i := 6) (N := some 89) (v := ?_) (a' := ?_) #[true, true, true, false, true, true, true, false, false, false] rfl rfl (any_of HT_.out (by kernel_rfl)) (fun _ _ _ h => h) (Or.inl ⟨by rfl, ?_⟩) ?_ ?_
                   rotate_left
                   ·intro w'
                    go_simp
                    with_reducible rfl
                   rotate_left
                   ·simp only [Act.put, List.setIfInBounds_toArray, List.set_cons_zero, List.set_cons_succ, i64_w, i32_w]
                    rfl
                   refine one_ (i := 3) (N := some 86) #[true, true, true, true, true, true, true, false, false, false] rfl rfl (one_of HT_.out (by kernel_rfl)) (by decide) (fun K hK => ?_)
                   refine goes_ Try.func74 (by kernel_rfl) rfl #[.int .u64 (IntKind.u64.wrap ((rd_T41 l0_1 x62_2).f0))] (by rfl) rfl rfl (by (try simp only [List.map_toArray, List.map_cons, List.map_nil]); first | done | rfl | (simp only [List.length_drop, List.length_take]; rfl)) ?_
                   with_reducible refine (bits_OnesCount.calls (IntKind.u64.wrap ((rd_T41 l0_1 x62_2).f0)) t119 _ A101.out).mono ?_
                   rintro e w' ⟨rfl, ⟨nd, rfl⟩⟩
                   refine ⟨_, rfl, ?_⟩
                   refine hK.out _ _ ⟨(blk_cell BK114.out 0).trans rfl, (blk_cell BK114.out 1).trans rfl, (blk_cell BK114.out 2).trans rfl, (blk_cell BK118.out 0).trans rfl, (blk_cell BK118.out 1).trans rfl, (blk_cell BK118.out 2).trans rfl⟩ (fun hHeld => ?_)
                   clear hK K
                   refine norm_ (a' := ?_) ?_ ?_
                   rotate_left
                   ·show Act.put _ (some 86) _ = _
                    simp only [Act.put, List.setIfInBounds_toArray, List.set_cons_zero, List.set_cons_succ, i64_w, i32_w]
                    rfl
                   refine one_ (i := 7) (N := some 90) #[true, true, true, true, true, true, true, true, false, false] rfl rfl (one_of HT_.out (by kernel_rfl)) (by decide) (fun K hK => ?_)
                   refine goes_ Try.func74 (by kernel_rfl) rfl #[.int .u64 (IntKind.u64.wrap ((rd_T41 l0_1 x10_2).f0))] (by rfl) rfl rfl (by (try simp only [List.map_toArray, List.map_cons, List.map_nil]); first | done | rfl | (simp only [List.length_drop, List.length_take]; rfl)) ?_
                   with_reducible refine (bits_OnesCount.calls (IntKind.u64.wrap ((rd_T41 l0_1 x10_2).f0)) t120 _ A102.out).mono ?_
                   rintro e w' ⟨rfl, ⟨nd, rfl⟩⟩
                   refine ⟨_, rfl, ?_⟩
                   refine hK.out _ _ ⟨(blk_cell BK114.out 0).trans rfl, (blk_cell BK114.out 1).trans rfl, (blk_cell BK114.out 2).trans rfl, (blk_cell BK118.out 0).trans rfl, (blk_cell BK118.out 1).trans rfl, (blk_cell BK118.out 2).trans rfl⟩ (fun hHeld => ?_)
                   clear hK K
                   refine norm_ (a' := ?_) ?_ ?_
                   rotate_left
                   ·show Act.put _ (some 90) _ = _
                    simp only [Act.put, List.setIfInBounds_toArray, List.set_cons_zero, List.set_cons_succ, i64_w, i32_w]
                    rfl
                   refine pure_ (i := 8) (N := some 14) (v := ?_) (a' := ?_) #[true, true, true, true, true, true, true, true, true, false] rfl rfl (any_of HT_.out (by kernel_rfl)) (fun _ _ _ h => h) (Or.inl ⟨by rfl, ?_⟩) ?_ ?_
                   rotate_left
                   ·intro w'
                    go_simp
                    with_reducible rfl
                   rotate_left
                   ·simp only [Act.put, List.setIfInBounds_toArray, List.set_cons_zero, List.set_cons_succ, i64_w, i32_w]
                    rfl
                   refine pure_ (i := 9) (N := some 15) (v := ?_) (a' := ?_) #[true, true, true, true, true, true, true, true, true, true] rfl rfl (any_of HT_.out (by kernel_rfl)) (fun _ _ _ h => h) (Or.inl ⟨by rfl, ?_⟩) ?_ ?_
                   rotate_left
                   ·intro w'
                    go_simp
                    with_reducible rfl
                   rotate_left
                   ·simp only [Act.put, List.setIfInBounds_toArray, List.set_cons_zero, List.set_cons_succ, i64_w, i32_w]
                    rfl
                   refine done_ (done_of HT_.out (by kernel_rfl)) ?_
                   have hcz138_0 : w137.cell? ⟨gb114, 0, none⟩ = some (.int .i64 ((rd_T41 l0_1 x62_2).f0)) := (blk_cell BK114.out 0).trans rfl
                   have hcz138_1 : w137.cell? ⟨gb114, 1, none⟩ = some (.int .i64 ((rd_T41 l0_1 x62_2).f1)) := (blk_cell BK114.out 1).trans rfl
                   have hcz138_2 : w137.cell? ⟨gb114, 2, none⟩ = some (.int .i64 ((rd_T41 l0_1 x62_2).f2)) := (blk_cell BK114.out 2).trans rfl
                   have hfz138_0 := blk_frozen BK114.out 0
                   have hfz138_1 := blk_frozen BK114.out 1
                   have hfz138_2 := blk_frozen BK114.out 2
                   have hcz139_0 : w137.cell? ⟨gb118, 0, none⟩ = some (.int .i64 ((rd_T41 l0_1 x10_2).f0)) := (blk_cell BK118.out 0).trans rfl
                   have hcz139_1 : w137.cell? ⟨gb118, 1, none⟩ = some (.int .i64 ((rd_T41 l0_1 x10_2).f1)) := (blk_cell BK118.out 1).trans rfl
                   have hcz139_2 : w137.cell? ⟨gb118, 2, none⟩ = some (.int .i64 ((rd_T41 l0_1 x10_2).f2)) := (blk_cell BK118.out 2).trans rfl
                   have hfz139_0 := blk_frozen BK118.out 0
                   have hfz139_1 := blk_frozen BK118.out 1
                   have hfz139_2 := blk_frozen BK118.out 2
                   try go_wp2
                   go_roundg k2
                   case measure => have := HK1.out; have := HK2.out; omega
                   case rel => exact ⟨(x10_2), (wrap64 (x62_2 + 1)), (by first | rfl | (simp; done) | (simp [*]; done)), (by first | rfl | (simp; done) | (simp [*]; done)), H', ⟨by have := HK1.out; have := HK2.out; omega⟩, ⟨by (with_reducible repeat (first | refine blk_drewN ?_ _ | refine blk_drew ?_ | refine blk_alloc ?_ _)); exact BK106.out⟩, ⟨by (with_reducible repeat (first | refine blk_drewN ?_ _ | refine blk_drew ?_ | refine blk_alloc ?_ _)); exact BK107.out⟩, ⟨belowNow⟩⟩
                  ·rw [if_neg c121] at H
                   have c121b0 : decide (((rd_T41 l0_1 x10_2).f2) ≤ ((rd_T41 l0_1 x62_2).f2)) = false := decide_eq_false c121
                   clear c121
                   have H' := Aside0.mk H
                   clear H
                   have p113 : 0 ≤ (x62_2 : Int) := of_decide_eq_true (by first | (with_reducible assumption) | assumption)
                   have q113 : x62_2 < (l0_1.length : Int) := of_decide_eq_true (by first | (with_reducible assumption) | assumption)
                   obtain ⟨ad113, e113, hx113_0, hx113_1, hx113_2⟩ := at_T41 HR0_1.out x62_2 p113 q113
                   cases e113
                   replace hx113_0 := (HB.out.cell (World.block_lt_of_cell? w _ hx113_0)).trans hx113_0
                   replace hx113_1 := (HB.out.cell (World.block_lt_of_cell? w _ hx113_1)).trans hx113_1
                   replace hx113_2 := (HB.out.cell (World.block_lt_of_cell? w _ hx113_2)).trans hx113_2
                   replace p113 := eq_true p113
                   replace q113 := eq_true q113
                   try go_wp2_with (first | ((with_reducible refine gate_dst (N := 12) rfl ?_); refine box_event ?hg (N := 12) ?hd (cs := #[.int .i64 0, .int .i64 0, .int .i64 0]) (t := 41) ?hr ?_; (case hd => rfl); (case hg => rfl); (case hr => first | (go_simp; done) | (go_simp; rfl)); intro gb114 hg w140 hbox hb; have n0_ := Aside0.mk (blkStep (g := gb106) hb); have n1_ := Aside0.mk (blkStep (g := gb107) hb); have n2_ := Aside0.mk (below_step belowNow hb); have n3_ := Aside0.mk (hbox); have n4_ := Aside0.mk ((by rw [hg]; exact (below_size belowNow) : w.heap.size ≤ gb114)); have n5_ := n4_; have n6_ := Aside0.mk ((by rw [hg]; exact Nat.ne_of_lt (blkLt (g := gb106)) : gb106 ≠ gb114)); have n7_ := Aside0.mk ((by rw [hg]; exact Nat.ne_of_gt (blkLt (g := gb106)) : gb114 ≠ gb106)); have n8_ := Aside0.mk ((by rw [hg]; exact Nat.ne_of_lt (blkLt (g := gb107)) : gb107 ≠ gb114)); have n9_ := Aside0.mk ((by rw [hg]; exact Nat.ne_of_gt (blkLt (g := gb107)) : gb114 ≠ gb107)); clear BK106; clear BK107; clear HB; have BK106 := n0_; have BK107 := n1_; have HB := n2_; have BK114 := n3_; have GW114 := n4_; have GE114 := n5_; have NB106_114 := n6_; have NB114_106 := n7_; have NB107_114 := n8_; have NB114_107 := n9_; clear n0_ n1_ n2_ n3_ n4_ n5_ n6_ n7_ n8_ n9_; clear hb hbox hg; have hnb141 := NB114_106.out; have hnc141 := NB106_114.out; have hnb142 := NB114_107.out; have hnc142 := NB107_114.out; have hcz143_0 : w140.cell? ⟨gb114, 0, none⟩ = some (.int .i64 0) := (blk_cell BK114.out 0).trans rfl; have hcz143_1 : w140.cell? ⟨gb114, 1, none⟩ = some (.int .i64 0) := (blk_cell BK114.out 1).trans rfl; have hcz143_2 : w140.cell? ⟨gb114, 2, none⟩ = some (.int .i64 0) := (blk_cell BK114.out 2).trans rfl; have hfz143_0 := blk_frozen BK114.out 0; have hfz143_1 := blk_frozen BK114.out 1; have hfz143_2 := blk_frozen BK114.out 2))
                   have n0_ : Aside0 ((((w140.setCell ⟨gb114, 0, none⟩ (.int .i64 ((rd_T41 l0_1 x62_2).f0))).setCell ⟨gb114, 1, none⟩ (.int .i64 ((rd_T41 l0_1 x62_2).f1))).setCell ⟨gb114, 2, none⟩ (.int .i64 ((rd_T41 l0_1 x62_2).f2))).heap[gb106]? = some (.cells #[.int .i64 a0_0, .slice (some ad113) l0_1.length c0_1, .slice A0_2 l0_2.length c0_2, .int .i64 a0_3] 31 (0, 0))) := ⟨blkFars⟩
                   have n1_ : Aside0 ((((w140.setCell ⟨gb114, 0, none⟩ (.int .i64 ((rd_T41 l0_1 x62_2).f0))).setCell ⟨gb114, 1, none⟩ (.int .i64 ((rd_T41 l0_1 x62_2).f1))).setCell ⟨gb114, 2, none⟩ (.int .i64 ((rd_T41 l0_1 x62_2).f2))).heap[gb107]? = some (.cells #[.func (.func 72) #[] #[]] 106 (0, 0))) := ⟨blkFars⟩
                   have n2_ : Aside0 ((((w140.setCell ⟨gb114, 0, none⟩ (.int .i64 ((rd_T41 l0_1 x62_2).f0))).setCell ⟨gb114, 1, none⟩ (.int .i64 ((rd_T41 l0_1 x62_2).f1))).setCell ⟨gb114, 2, none⟩ (.int .i64 ((rd_T41 l0_1 x62_2).f2))).heap[gb114]? = some (.cells #[.int .i64 ((rd_T41 l0_1 x62_2).f0), .int .i64 ((rd_T41 l0_1 x62_2).f1), .int .i64 ((rd_T41 l0_1 x62_2).f2)] 41 (0, 0))) := ⟨by (with_reducible repeat (first | refine blk_drewN ?_ _ | refine blk_drew ?_ | refine blk_alloc ?_ _)); refine blk_put (cs := #[.int .i64 ((rd_T41 l0_1 x62_2).f0), .int .i64 ((rd_T41 l0_1 x62_2).f1), .int .i64 0]) ?_ 2 _ rfl; (with_reducible repeat (first | refine blk_drewN ?_ _ | refine blk_drew ?_ | refine blk_alloc ?_ _)); refine blk_put (cs := #[.int .i64 ((rd_T41 l0_1 x62_2).f0), .int .i64 0, .int .i64 0]) ?_ 1 _ rfl; (with_reducible repeat (first | refine blk_drewN ?_ _ | refine blk_drew ?_ | refine blk_alloc ?_ _)); refine blk_put (cs := #[.int .i64 0, .int .i64 0, .int .i64 0]) ?_ 0 _ rfl; (with_reducible repeat (first | refine blk_drewN ?_ _ | refine blk_drew ?_ | refine blk_alloc ?_ _)); exact BK114.out⟩
                   have n3_ : Aside0 (Below w.heap.size w (((w140.setCell ⟨gb114, 0, none⟩ (.int .i64 ((rd_T41 l0_1 x62_2).f0))).setCell ⟨gb114, 1, none⟩ (.int .i64 ((rd_T41 l0_1 x62_2).f1))).setCell ⟨gb114, 2, none⟩ (.int .i64 ((rd_T41 l0_1 x62_2).f2)))) := ⟨belowNow⟩
                   (try clear BK106)
                   (try clear BK107)
                   (try clear BK114)
                   (try clear HB)
                   generalize (((w140.setCell ⟨gb114, 0, none⟩ (.int .i64 ((rd_T41 l0_1 x62_2).f0))).setCell ⟨gb114, 1, none⟩ (.int .i64 ((rd_T41 l0_1 x62_2).f1))).setCell ⟨gb114, 2, none⟩ (.int .i64 ((rd_T41 l0_1 x62_2).f2))) = w144 at n0_ n1_ n2_ n3_ ⊢
                   have BK106 := n0_
                   have BK107 := n1_
                   have BK114 := n2_
                   have HB := n3_
                   clear n0_ n1_ n2_ n3_
                   have n0_ := Aside0.mk (blk_drew BK106.out)
                   have n1_ := Aside0.mk (blk_drew BK107.out)
                   have n2_ := Aside0.mk (blk_drew BK114.out)
                   have n3_ := Aside0.mk (below_drew1 HB.out)
                   clear BK106
                   clear BK107
                   clear BK114
                   clear HB
                   have BK106 := n0_
                   have BK107 := n1_
                   have BK114 := n2_
                   have HB := n3_
                   clear n0_ n1_ n2_ n3_
                   have p115 : 0 ≤ (x5_1 : Int) := of_decide_eq_true (by first | (with_reducible assumption) | assumption)
                   have q115 : x5_1 < (l0_2.length : Int) := of_decide_eq_true (by first | (with_reducible assumption) | assumption)
                   obtain ⟨ad115, e115, hx115_0, hx115_1, hx115_2, hx115_3⟩ := at_T70 HR0_2.out x5_1 p115 q115
                   have hw115_3 := hx115_3
                   have hw115_2 := hx115_2
                   have hw115_1 := hx115_1
                   have hw115_0 := hx115_0
                   cases e115
                   replace hx115_0 := (HB.out.cell (World.block_lt_of_cell? w _ hx115_0)).trans hx115_0
                   replace hx115_1 := (HB.out.cell (World.block_lt_of_cell? w _ hx115_1)).trans hx115_1
                   replace hx115_2 := (HB.out.cell (World.block_lt_of_cell? w _ hx115_2)).trans hx115_2
                   replace hx115_3 := (HB.out.cell (World.block_lt_of_cell? w _ hx115_3)).trans hx115_3
                   replace p115 := eq_true p115
                   replace q115 := eq_true q115
                   refine start_ (n := 9) (S := fun w' => w'.cell? ⟨gb107, 0, none⟩ = some (.func (.func 72) #[] #[]) ∧ True ∧ True ∧ w'.cell? ⟨gb106, 0, none⟩ = some (.int .i64 a0_0) ∧ w'.cell? ⟨gb106, 1, none⟩ = some (.slice (some ad113) l0_1.length c0_1) ∧ w'.cell? ⟨gb106, 2, none⟩ = some (.slice (some ad115) l0_2.length c0_2) ∧ w'.cell? ⟨gb106, 3, none⟩ = some (.int .i64 a0_3) ∧ w'.cell? ⟨gb114, 0, none⟩ = some (.int .i64 ((rd_T41 l0_1 x62_2).f0)) ∧ w'.cell? ⟨gb114, 1, none⟩ = some (.int .i64 ((rd_T41 l0_1 x62_2).f1)) ∧ w'.cell? ⟨gb114, 2, none⟩ = some (.int .i64 ((rd_T41 l0_1 x62_2).f2)) ∧ w'.cell? (ad115.add ((x5_1).toNat * 4)) = some (.int .i64 ((rd_T70 l0_2 x5_1).f0)) ∧ w'.cell? ⟨(ad115.add ((x5_1).toNat * 4)).block, (ad115.add ((x5_1).toNat * 4)).off + 1, none⟩ = some (.int .i64 ((rd_T70 l0_2 x5_1).f1)) ∧ w'.cell? ⟨(ad115.add ((x5_1).toNat * 4)).block, (ad115.add ((x5_1).toNat * 4)).off + 2, none⟩ = some (.int .i64 ((rd_T70 l0_2 x5_1).f2)) ∧ w'.cell? ⟨(ad115.add ((x5_1).toNat * 4)).block, (ad115.add ((x5_1).toNat * 4)).off + 3, none⟩ = some (.int .i64 ((rd_T70 l0_2 x5_1).f3))) (ds := []) #[false, false, false, false, false, false, false, false, false] (by kernel_rfl) rfl rfl ⟨(blk_cell BK107.out 0).trans rfl, trivial, trivial, (blk_cell BK106.out 0).trans rfl, (blk_cell BK106.out 1).trans rfl, (blk_cell BK106.out 2).trans rfl, (blk_cell BK106.out 3).trans rfl, (blk_cell BK114.out 0).trans rfl, (blk_cell BK114.out 1).trans rfl, (blk_cell BK114.out 2).trans rfl, ((HB.out.cell (World.block_lt_of_cell? w _ hw115_0)).trans hw115_0), ((HB.out.cell (World.block_lt_of_cell? w _ hw115_1)).trans hw115_1), ((HB.out.cell (World.block_lt_of_cell? w _ hw115_2)).trans hw115_2), ((HB.out.cell (World.block_lt_of_cell? w _ hw115_3)).trans hw115_3)⟩ (fun hHeld => ?_); refine with_tabW impl_Desk_next.tab18 impl_Desk_next.bits18 (fun HT_ HW_ => ?_)
                   generalize w144.drew = w145 at BK106 BK107 BK114 HB hx115_0 hx115_1 hx115_2 hx115_3 hHeld ⊢
                   refine pure_ (i := 1) (N := some 68) (v := ?_) (a' := ?_) #[false, true, false, false, false, false, false, false, false] rfl rfl (any_of HT_.out (by kernel_rfl)) (fun _ _ _ h => h) (Or.inl ⟨by rfl, ?_⟩) ?_ ?_
                   rotate_left
                   ·intro w'
                    go_simp
                    with_reducible rfl
                   rotate_left
                   ·simp only [Act.put, List.setIfInBounds_toArray, List.set_cons_zero, List.set_cons_succ, i64_w, i32_w]
                    rfl
                   refine pure_ (i := 3) (N := some 70) (v := ?_) (a' := ?_) #[false, true, false, true, false, false, false, false, false] rfl rfl (any_of HT_.out (by kernel_rfl)) (fun _ _ _ h => h) (Or.inl ⟨by rfl, ?_⟩) ?_ ?_
                   rotate_left
                   ·intro w'
                    go_simp
                    with_reducible rfl
                   rotate_left
                   ·simp only [Act.put, List.setIfInBounds_toArray, List.set_cons_zero, List.set_cons_succ, i64_w, i32_w]
                    rfl
                   refine take_ (i := 0) (N := some 67) (v := ?_) (a' := ?_) #[true, true, false, true, false, false, false, false, false] rfl rfl (take_ofW HT_.out HW_.out (by kernel_rfl)) (fun _ _ _ h => h) (Or.inl ⟨by rfl, ?_⟩) hHeld ?_ ?_
                   rotate_left
                   ·rintro w' ⟨s0, s1, s2, s3, s4, s5, s6, s7, s8, s9, s10, s11, s12, s13⟩
                    go_simp
                    with_reducible rfl
                   rotate_left
                   ·simp only [Act.put, List.setIfInBounds_toArray, List.set_cons_zero, List.set_cons_succ, i64_w, i32_w]
                    rfl
                   refine take_ (i := 2) (N := some 69) (v := ?_) (a' := ?_) #[true, true, true, true, false, false, false, false, false] rfl rfl (take_ofW HT_.out HW_.out (by kernel_rfl)) (fun _ _ _ h => h) (Or.inl ⟨by rfl, ?_⟩) hHeld ?_ ?_
                   rotate_left
                   ·rintro w' ⟨s0, s1, s2, s3, s4, s5, s6, s7, s8, s9, s10, s11, s12, s13⟩
                    go_simp
                    with_reducible rfl
                   rotate_left
                   ·simp only [Act.put, List.setIfInBounds_toArray, List.set_cons_zero, List.set_cons_succ, i64_w, i32_w]
                    rfl
                   refine pure_ (i := 4) (N := some 71) (v := ?_) (a' := ?_) #[true, true, true, true, true, false, false, false, false] rfl rfl (any_of HT_.out (by kernel_rfl)) (fun _ _ _ h => h) (Or.inl ⟨by rfl, ?_⟩) ?_ ?_
                   rotate_left
                   ·intro w'
                    go_simp
                    with_reducible rfl
                   rotate_left
                   ·simp only [Act.put, List.setIfInBounds_toArray, List.set_cons_zero, List.set_cons_succ, i64_w, i32_w]
                    rfl
                   refine take_ (i := 5) (N := some 72) (v := ?_) (a' := ?_) #[true, true, true, true, true, true, false, false, false] rfl rfl (take_ofW HT_.out HW_.out (by kernel_rfl)) (fun _ _ _ h => h) (Or.inl ⟨by rfl, ?_⟩) hHeld ?_ ?_
                   rotate_left
                   ·rintro w' ⟨s0, s1, s2, s3, s4, s5, s6, s7, s8, s9, s10, s11, s12, s13⟩
                    go_simp
                    with_reducible rfl
                   rotate_left
                   ·simp only [Act.put, List.setIfInBounds_toArray, List.set_cons_zero, List.set_cons_succ, i64_w, i32_w]
                    rfl
                   refine take_ (i := 6) (N := some 73) (v := ?_) (a' := ?_) #[true, true, true, true, true, true, true, false, false] rfl rfl (take_ofW HT_.out HW_.out (by kernel_rfl)) (fun _ _ _ h => h) (Or.inl ⟨by rfl, ?_⟩) hHeld ?_ ?_
                   rotate_left
                   ·rintro w' ⟨s0, s1, s2, s3, s4, s5, s6, s7, s8, s9, s10, s11, s12, s13⟩
                    go_simp
                    with_reducible rfl
                   rotate_left
                   ·simp only [Act.put, List.setIfInBounds_toArray, List.set_cons_zero, List.set_cons_succ, i64_w, i32_w]
                    rfl
                   refine one_ (i := 7) (N := some 74) #[true, true, true, true, true, true, true, true, false] rfl rfl (one_of HT_.out (by kernel_rfl)) (by decide) (fun K hK => ?_)
                   refine Clo.goesF_ (p := 67) rfl Try.func72 (by kernel_rfl) rfl #[.agg #[.int .i64 ((rd_T70 l0_2 x5_1).f0), .int .i64 ((rd_T70 l0_2 x5_1).f1), .int .i64 ((rd_T70 l0_2 x5_1).f2), .int .i64 ((rd_T70 l0_2 x5_1).f3)], .agg #[.int .i64 ((rd_T41 l0_1 x62_2).f0), .int .i64 ((rd_T41 l0_1 x62_2).f1), .int .i64 ((rd_T41 l0_1 x62_2).f2)]] (by rfl) rfl rfl (by (try simp only [List.map_toArray, List.map_cons, List.map_nil]); first | done | rfl | (simp only [List.length_drop, List.length_take]; rfl)) ?_
                   with_reducible refine (impl_Desk_next_1.calls ((rd_T70 l0_2 x5_1).f0) ((rd_T70 l0_2 x5_1).f1) ((rd_T70 l0_2 x5_1).f2) ((rd_T70 l0_2 x5_1).f3) ((rd_T41 l0_1 x62_2).f0) ((rd_T41 l0_1 x62_2).f1) ((rd_T41 l0_1 x62_2).f2) true _ A96.out).mono ?_
                   rintro e w146 ⟨rfl, hb⟩
                   refine ⟨_, rfl, ?_⟩
                   have n0_ := Aside0.mk (blkStep (g := gb106) hb)
                   have n1_ := Aside0.mk (blkStep (g := gb107) hb)
                   have n2_ := Aside0.mk (blkStep (g := gb114) hb)
                   have n3_ := Aside0.mk (below_step belowNow hb)
                   clear BK106
                   clear BK107
                   clear BK114
                   clear HB
                   have BK106 := n0_
                   have BK107 := n1_
                   have BK114 := n2_
                   have HB := n3_
                   clear n0_ n1_ n2_ n3_
                   (try clear hb)
                   (try clear hb2)
                   (try clear hk)
                   (try clear hi)
                   refine hK.out _ _ ⟨(blk_cell BK107.out 0).trans rfl, trivial, trivial, (blk_cell BK106.out 0).trans rfl, (blk_cell BK106.out 1).trans rfl, (blk_cell BK106.out 2).trans rfl, (blk_cell BK106.out 3).trans rfl, (blk_cell BK114.out 0).trans rfl, (blk_cell BK114.out 1).trans rfl, (blk_cell BK114.out 2).trans rfl, ((HB.out.cell (World.block_lt_of_cell? w _ hw115_0)).trans hw115_0), ((HB.out.cell (World.block_lt_of_cell? w _ hw115_1)).trans hw115_1), ((HB.out.cell (World.block_lt_of_cell? w _ hw115_2)).trans hw115_2), ((HB.out.cell (World.block_lt_of_cell? w _ hw115_3)).trans hw115_3)⟩ (fun hHeld => ?_)
                   clear hK K
                   refine norm_ (a' := ?_) ?_ ?_
                   rotate_left
                   ·show Act.put _ (some 74) _ = _
                    simp only [Act.put, List.setIfInBounds_toArray, List.set_cons_zero, List.set_cons_succ, i64_w, i32_w]
                    rfl
                   refine pure_ (i := 8) (N := some 75) (v := ?_) (a' := ?_) #[true, true, true, true, true, true, true, true, true] rfl rfl (any_of HT_.out (by kernel_rfl)) (fun _ _ _ h => h) (Or.inl ⟨by rfl, ?_⟩) ?_ ?_
                   rotate_left
                   ·intro w'
                    go_simp
                    with_reducible rfl
                   rotate_left
                   ·simp only [Act.put, List.setIfInBounds_toArray, List.set_cons_zero, List.set_cons_succ, i64_w, i32_w]
                    rfl
                   refine done_ (done_of HT_.out (by kernel_rfl)) ?_
                   have hnb147 := NB106_107.out
                   have hnc147 := NB107_106.out
                   have hcz148_0 : w146.cell? ⟨gb106, 0, none⟩ = some (.int .i64 a0_0) := (blk_cell BK106.out 0).trans rfl
                   have hcz148_1 : w146.cell? ⟨gb106, 1, none⟩ = some (.slice (some ad113) l0_1.length c0_1) := (blk_cell BK106.out 1).trans rfl
                   have hcz148_2 : w146.cell? ⟨gb106, 2, none⟩ = some (.slice (some ad115) l0_2.length c0_2) := (blk_cell BK106.out 2).trans rfl
                   have hcz148_3 : w146.cell? ⟨gb106, 3, none⟩ = some (.int .i64 a0_3) := (blk_cell BK106.out 3).trans rfl
                   have hfz148_0 := blk_frozen BK106.out 0
                   have hfz148_1 := blk_frozen BK106.out 1
                   have hfz148_2 := blk_frozen BK106.out 2
                   have hfz148_3 := blk_frozen BK106.out 3
                   have p117 : 0 ≤ (x10_2 : Int) := of_decide_eq_true (by first | (with_reducible assumption) | assumption)
                   have q117 : x10_2 < (l0_1.length : Int) := of_decide_eq_true (by first | (with_reducible assumption) | assumption)
                   obtain ⟨ad117, e117, hx117_0, hx117_1, hx117_2⟩ := at_T41 HR0_1.out x10_2 p117 q117
                   obtain rfl : ad113 = ad117 := (by injection e117)
                   replace hx117_0 := (HB.out.cell (World.block_lt_of_cell? w _ hx117_0)).trans hx117_0
                   replace hx117_1 := (HB.out.cell (World.block_lt_of_cell? w _ hx117_1)).trans hx117_1
                   replace hx117_2 := (HB.out.cell (World.block_lt_of_cell? w _ hx117_2)).trans hx117_2
                   replace p117 := eq_true p117
                   replace q117 := eq_true q117
                   try go_wp2_with (first | ((with_reducible refine gate_dst (N := 13) rfl ?_); refine box_event ?hg (N := 13) ?hd (cs := #[.int .i64 0, .int .i64 0, .int .i64 0]) (t := 41) ?hr ?_; (case hd => rfl); (case hg => rfl); (case hr => first | (go_simp; done) | (go_simp; rfl)); intro gb118 hg w149 hbox hb; have n0_ := Aside0.mk (blkStep (g := gb106) hb); have n1_ := Aside0.mk (blkStep (g := gb107) hb); have n2_ := Aside0.mk (blkStep (g := gb114) hb); have n3_ := Aside0.mk (below_step belowNow hb); have n4_ := Aside0.mk (hbox); have n5_ := Aside0.mk ((by rw [hg]; exact (below_size belowNow) : w.heap.size ≤ gb118)); have n6_ := n5_; have n7_ := Aside0.mk ((by rw [hg]; exact Nat.ne_of_lt (blkLt (g := gb106)) : gb106 ≠ gb118)); have n8_ := Aside0.mk ((by rw [hg]; exact Nat.ne_of_gt (blkLt (g := gb106)) : gb118 ≠ gb106)); have n9_ := Aside0.mk ((by rw [hg]; exact Nat.ne_of_lt (blkLt (g := gb107)) : gb107 ≠ gb118)); have n10_ := Aside0.mk ((by rw [hg]; exact Nat.ne_of_gt (blkLt (g := gb107)) : gb118 ≠ gb107)); have n11_ := Aside0.mk ((by rw [hg]; exact Nat.ne_of_lt (blkLt (g := gb114)) : gb114 ≠ gb118)); have n12_ := Aside0.mk ((by rw [hg]; exact Nat.ne_of_gt (blkLt (g := gb114)) : gb118 ≠ gb114)); clear BK106; clear BK107; clear BK114; clear HB; have BK106 := n0_; have BK107 := n1_; have BK114 := n2_; have HB := n3_; have BK118 := n4_; have GW118 := n5_; have GE118 := n6_; have NB106_118 := n7_; have NB118_106 := n8_; have NB107_118 := n9_; have NB118_107 := n10_; have NB114_118 := n11_; have NB118_114 := n12_; clear n0_ n1_ n2_ n3_ n4_ n5_ n6_ n7_ n8_ n9_ n10_ n11_ n12_; clear hb hbox hg; have hnb150 := NB118_106.out; have hnc150 := NB106_118.out; have hnb151 := NB118_107.out; have hnc151 := NB107_118.out; have hnb152 := NB118_114.out; have hnc152 := NB114_118.out; have hcz153_0 : w149.cell? ⟨gb118, 0, none⟩ = some (.int .i64 0) := (blk_cell BK118.out 0).trans rfl; have hcz153_1 : w149.cell? ⟨gb118, 1, none⟩ = some (.int .i64 0) := (blk_cell BK118.out 1).trans rfl; have hcz153_2 : w149.cell? ⟨gb118, 2, none⟩ = some (.int .i64 0) := (blk_cell BK118.out 2).trans rfl; have hfz153_0 := blk_frozen BK118.out 0; have hfz153_1 := blk_frozen BK118.out 1; have hfz153_2 := blk_frozen BK118.out 2))
                   have n0_ : Aside0 ((((w149.setCell ⟨gb118, 0, none⟩ (.int .i64 ((rd_T41 l0_1 x10_2).f0))).setCell ⟨gb118, 1, none⟩ (.int .i64 ((rd_T41 l0_1 x10_2).f1))).setCell ⟨gb118, 2, none⟩ (.int .i64 ((rd_T41 l0_1 x10_2).f2))).heap[gb106]? = some (.cells #[.int .i64 a0_0, .slice (some ad113) l0_1.length c0_1, .slice (some ad115) l0_2.length c0_2, .int .i64 a0_3] 31 (0, 0))) := ⟨blkFars⟩
                   have n1_ : Aside0 ((((w149.setCell ⟨gb118, 0, none⟩ (.int .i64 ((rd_T41 l0_1 x10_2).f0))).setCell ⟨gb118, 1, none⟩ (.int .i64 ((rd_T41 l0_1 x10_2).f1))).setCell ⟨gb118, 2, none⟩ (.int .i64 ((rd_T41 l0_1 x10_2).f2))).heap[gb107]? = some (.cells #[.func (.func 72) #[] #[]] 106 (0, 0))) := ⟨blkFars⟩
                   have n2_ : Aside0 ((((w149.setCell ⟨gb118, 0, none⟩ (.int .i64 ((rd_T41 l0_1 x10_2).f0))).setCell ⟨gb118, 1, none⟩ (.int .i64 ((rd_T41 l0_1 x10_2).f1))).setCell ⟨gb118, 2, none⟩ (.int .i64 ((rd_T41 l0_1 x10_2).f2))).heap[gb114]? = some (.cells #[.int .i64 ((rd_T41 l0_1 x62_2).f0), .int .i64 ((rd_T41 l0_1 x62_2).f1), .int .i64 ((rd_T41 l0_1 x62_2).f2)] 41 (0, 0))) := ⟨blkFars⟩
                   have n3_ : Aside0 ((((w149.setCell ⟨gb118, 0, none⟩ (.int .i64 ((rd_T41 l0_1 x10_2).f0))).setCell ⟨gb118, 1, none⟩ (.int .i64 ((rd_T41 l0_1 x10_2).f1))).setCell ⟨gb118, 2, none⟩ (.int .i64 ((rd_T41 l0_1 x10_2).f2))).heap[gb118]? = some (.cells #[.int .i64 ((rd_T41 l0_1 x10_2).f0), .int .i64 ((rd_T41 l0_1 x10_2).f1), .int .i64 ((rd_T41 l0_1 x10_2).f2)] 41 (0, 0))) := ⟨by (with_reducible repeat (first | refine blk_drewN ?_ _ | refine blk_drew ?_ | refine blk_alloc ?_ _)); refine blk_put (cs := #[.int .i64 ((rd_T41 l0_1 x10_2).f0), .int .i64 ((rd_T41 l0_1 x10_2).f1), .int .i64 0]) ?_ 2 _ rfl; (with_reducible repeat (first | refine blk_drewN ?_ _ | refine blk_drew ?_ | refine blk_alloc ?_ _)); refine blk_put (cs := #[.int .i64 ((rd_T41 l0_1 x10_2).f0), .int .i64 0, .int .i64 0]) ?_ 1 _ rfl; (with_reducible repeat (first | refine blk_drewN ?_ _ | refine blk_drew ?_ | refine blk_alloc ?_ _)); refine blk_put (cs := #[.int .i64 0, .int .i64 0, .int .i64 0]) ?_ 0 _ rfl; (with_reducible repeat (first | refine blk_drewN ?_ _ | refine blk_drew ?_ | refine blk_alloc ?_ _)); exact BK118.out⟩
                   have n4_ : Aside0 (Below w.heap.size w (((w149.setCell ⟨gb118, 0, none⟩ (.int .i64 ((rd_T41 l0_1 x10_2).f0))).setCell ⟨gb118, 1, none⟩ (.int .i64 ((rd_T41 l0_1 x10_2).f1))).setCell ⟨gb118, 2, none⟩ (.int .i64 ((rd_T41 l0_1 x10_2).f2)))) := ⟨belowNow⟩
                   (try clear BK106)
                   (try clear BK107)
                   (try clear BK114)
                   (try clear BK118)
                   (try clear HB)
                   generalize (((w149.setCell ⟨gb118, 0, none⟩ (.int .i64 ((rd_T41 l0_1 x10_2).f0))).setCell ⟨gb118, 1, none⟩ (.int .i64 ((rd_T41 l0_1 x10_2).f1))).setCell ⟨gb118, 2, none⟩ (.int .i64 ((rd_T41 l0_1 x10_2).f2))) = w154 at n0_ n1_ n2_ n3_ n4_ ⊢
                   have BK106 := n0_
                   have BK107 := n1_
                   have BK114 := n2_
                   have BK118 := n3_
                   have HB := n4_
                   clear n0_ n1_ n2_ n3_ n4_
                   have n0_ := Aside0.mk (blk_drew BK106.out)
                   have n1_ := Aside0.mk (blk_drew BK107.out)
                   have n2_ := Aside0.mk (blk_drew BK114.out)
                   have n3_ := Aside0.mk (blk_drew BK118.out)
                   have n4_ := Aside0.mk (below_drew1 HB.out)
                   clear BK106
                   clear BK107
                   clear BK114
                   clear BK118
                   clear HB
                   have BK106 := n0_
                   have BK107 := n1_
                   have BK114 := n2_
                   have BK118 := n3_
                   have HB := n4_
                   clear n0_ n1_ n2_ n3_ n4_
                   refine start_ (n := 10) (S := fun w' => w'.cell? ⟨gb114, 0, none⟩ = some (.int .i64 ((rd_T41 l0_1 x62_2).f0)) ∧ w'.cell? ⟨gb114, 1, none⟩ = some (.int .i64 ((rd_T41 l0_1 x62_2).f1)) ∧ w'.cell? ⟨gb114, 2, none⟩ = some (.int .i64 ((rd_T41 l0_1 x62_2).f2)) ∧ w'.cell? ⟨gb118, 0, none⟩ = some (.int .i64 ((rd_T41 l0_1 x10_2).f0)) ∧ w'.cell? ⟨gb118, 1, none⟩ = some (.int .i64 ((rd_T41 l0_1 x10_2).f1)) ∧ w'.cell? ⟨gb118, 2, none⟩ = some (.int .i64 ((rd_T41 l0_1 x10_2).f2))) (ds := []) #[false, false, false, false, false, false, false, false, false, false] (by kernel_rfl) rfl rfl ⟨(blk_cell BK114.out 0).trans rfl, (blk_cell BK114.out 1).trans rfl, (blk_cell BK114.out 2).trans rfl, (blk_cell BK118.out 0).trans rfl, (blk_cell BK118.out 1).trans rfl, (blk_cell BK118.out 2).trans rfl⟩ (fun hHeld => ?_); refine with_tabW impl_Desk_next.tab21 impl_Desk_next.bits21 (fun HT_ HW_ => ?_)
                   generalize w154.drew = w155 at BK106 BK107 BK114 BK118 HB hHeld ⊢
                   refine pure_ (i := 0) (N := some 83) (v := ?_) (a' := ?_) #[true, false, false, false, false, false, false, false, false, false] rfl rfl (any_of HT_.out (by kernel_rfl)) (fun _ _ _ h => h) (Or.inl ⟨by rfl, ?_⟩) ?_ ?_
                   rotate_left
                   ·intro w'
                    go_simp
                    with_reducible rfl
                   rotate_left
                   ·simp only [Act.put, List.setIfInBounds_toArray, List.set_cons_zero, List.set_cons_succ, i64_w, i32_w]
                    rfl
                   refine pure_ (i := 4) (N := some 87) (v := ?_) (a' := ?_) #[true, false, false, false, true, false, false, false, false, false] rfl rfl (any_of HT_.out (by kernel_rfl)) (fun _ _ _ h => h) (Or.inl ⟨by rfl, ?_⟩) ?_ ?_
                   rotate_left
                   ·intro w'
                    go_simp
                    with_reducible rfl
                   rotate_left
                   ·simp only [Act.put, List.setIfInBounds_toArray, List.set_cons_zero, List.set_cons_succ, i64_w, i32_w]
                    rfl
                   refine take_ (i := 1) (N := some 84) (v := ?_) (a' := ?_) #[true, true, false, false, true, false, false, false, false, false] rfl rfl (take_ofW HT_.out HW_.out (by kernel_rfl)) (fun _ _ _ h => h) (Or.inl ⟨by rfl, ?_⟩) hHeld ?_ ?_
                   rotate_left
                   ·rintro w' ⟨s0, s1, s2, s3, s4, s5⟩
                    go_simp
                    with_reducible rfl
                   rotate_left
                   ·simp only [Act.put, List.setIfInBounds_toArray, List.set_cons_zero, List.set_cons_succ, i64_w, i32_w]
                    rfl
                   refine pure_ (i := 2) (N := some 85) (v := ?_) (a' := ?_) #[true, true, true, false, true, false, false, false, false, false] rfl rfl (any_of HT_.out (by kernel_rfl)) (fun _ _ _ h => h) (Or.inl ⟨by rfl, ?_⟩) ?_ ?_
                   rotate_left
                   ·intro w'
                    go_simp
                    with_reducible rfl
                   rotate_left
                   ·simp only [Act.put, List.setIfInBounds_toArray, List.set_cons_zero, List.set_cons_succ, i64_w, i32_w]
                    rfl
                   refine take_ (i := 5) (N := some 88) (v := ?_) (a' := ?_) #[true, true, true, false, true, true, false, false, false, false] rfl rfl (take_ofW HT_.out HW_.out (by kernel_rfl)) (fun _ _ _ h => h) (Or.inl ⟨by rfl, ?_⟩) hHeld ?_ ?_
                   rotate_left
                   ·rintro w' ⟨s0, s1, s2, s3, s4, s5⟩
                    go_simp
                    with_reducible rfl
                   rotate_left
                   ·simp only [Act.put, List.setIfInBounds_toArray, List.set_cons_zero, List.set_cons_succ, i64_w, i32_w]
                    rfl
                   refine pure_ (i := 6) (N := some 89) (v := ?_) (a' := ?_) #[true, true, true, false, true, true, true, false, false, false] rfl rfl (any_of HT_.out (by kernel_rfl)) (fun _ _ _ h => h) (Or.inl ⟨by rfl, ?_⟩) ?_ ?_
                   rotate_left
                   ·intro w'
                    go_simp
                    with_reducible rfl
                   rotate_left
                   ·simp only [Act.put, List.setIfInBounds_toArray, List.set_cons_zero, List.set_cons_succ, i64_w, i32_w]
                    rfl
                   refine one_ (i := 3) (N := some 86) #[true, true, true, true, true, true, true, false, false, false] rfl rfl (one_of HT_.out (by kernel_rfl)) (by decide) (fun K hK => ?_)
                   refine goes_ Try.func74 (by kernel_rfl) rfl #[.int .u64 (IntKind.u64.wrap ((rd_T41 l0_1 x62_2).f0))] (by rfl) rfl rfl (by (try simp only [List.map_toArray, List.map_cons, List.map_nil]); first | done | rfl | (simp only [List.length_drop, List.length_take]; rfl)) ?_
                   with_reducible refine (bits_OnesCount.calls (IntKind.u64.wrap ((rd_T41 l0_1 x62_2).f0)) t119 _ A101.out).mono ?_
                   rintro e w' ⟨rfl, ⟨nd, rfl⟩⟩
                   refine ⟨_, rfl, ?_⟩
                   refine hK.out _ _ ⟨(blk_cell BK114.out 0).trans rfl, (blk_cell BK114.out 1).trans rfl, (blk_cell BK114.out 2).trans rfl, (blk_cell BK118.out 0).trans rfl, (blk_cell BK118.out 1).trans rfl, (blk_cell BK118.out 2).trans rfl⟩ (fun hHeld => ?_)
                   clear hK K
                   refine norm_ (a' := ?_) ?_ ?_
                   rotate_left
                   ·show Act.put _ (some 86) _ = _
                    simp only [Act.put, List.setIfInBounds_toArray, List.set_cons_zero, List.set_cons_succ, i64_w, i32_w]
                    rfl
                   refine one_ (i := 7) (N := some 90) #[true, true, true, true, true, true, true, true, false, false] rfl rfl (one_of HT_.out (by kernel_rfl)) (by decide) (fun K hK => ?_)
                   refine goes_ Try.func74 (by kernel_rfl) rfl #[.int .u64 (IntKind.u64.wrap ((rd_T41 l0_1 x10_2).f0))] (by rfl) rfl rfl (by (try simp only [List.map_toArray, List.map_cons, List.map_nil]); first | done | rfl | (simp only [List.length_drop, List.length_take]; rfl)) ?_
                   with_reducible refine (bits_OnesCount.calls (IntKind.u64.wrap ((rd_T41 l0_1 x10_2).f0)) t120 _ A102.out).mono ?_
                   rintro e w' ⟨rfl, ⟨nd, rfl⟩⟩
                   refine ⟨_, rfl, ?_⟩
                   refine hK.out _ _ ⟨(blk_cell BK114.out 0).trans rfl, (blk_cell BK114.out 1).trans rfl, (blk_cell BK114.out 2).trans rfl, (blk_cell BK118.out 0).trans rfl, (blk_cell BK118.out 1).trans rfl, (blk_cell BK118.out 2).trans rfl⟩ (fun hHeld => ?_)
                   clear hK K
                   refine norm_ (a' := ?_) ?_ ?_
                   rotate_left
                   ·show Act.put _ (some 90) _ = _
                    simp only [Act.put, List.setIfInBounds_toArray, List.set_cons_zero, List.set_cons_succ, i64_w, i32_w]
                    rfl
                   refine pure_ (i := 8) (N := some 14) (v := ?_) (a' := ?_) #[true, true, true, true, true, true, true, true, true, false] rfl rfl (any_of HT_.out (by kernel_rfl)) (fun _ _ _ h => h) (Or.inl ⟨by rfl, ?_⟩) ?_ ?_
                   rotate_left
                   ·intro w'
                    go_simp
                    with_reducible rfl
                   rotate_left
                   ·simp only [Act.put, List.setIfInBounds_toArray, List.set_cons_zero, List.set_cons_succ, i64_w, i32_w]
                    rfl
                   refine pure_ (i := 9) (N := some 15) (v := ?_) (a' := ?_) #[true, true, true, true, true, true, true, true, true, true] rfl rfl (any_of HT_.out (by kernel_rfl)) (fun _ _ _ h => h) (Or.inl ⟨by rfl, ?_⟩) ?_ ?_
                   rotate_left
                   ·intro w'
                    go_simp
                    with_reducible rfl
                   rotate_left
                   ·simp only [Act.put, List.setIfInBounds_toArray, List.set_cons_zero, List.set_cons_succ, i64_w, i32_w]
                    rfl
                   refine done_ (done_of HT_.out (by kernel_rfl)) ?_
                   have hcz156_0 : w155.cell? ⟨gb114, 0, none⟩ = some (.int .i64 ((rd_T41 l0_1 x62_2).f0)) := (blk_cell BK114.out 0).trans rfl
                   have hcz156_1 : w155.cell? ⟨gb114, 1, none⟩ = some (.int .i64 ((rd_T41 l0_1 x62_2).f1)) := (blk_cell BK114.out 1).trans rfl
                   have hcz156_2 : w155.cell? ⟨gb114, 2, none⟩ = some (.int .i64 ((rd_T41 l0_1 x62_2).f2)) := (blk_cell BK114.out 2).trans rfl
                   have hfz156_0 := blk_frozen BK114.out 0
                   have hfz156_1 := blk_frozen BK114.out 1
                   have hfz156_2 := blk_frozen BK114.out 2
                   have hcz157_0 : w155.cell? ⟨gb118, 0, none⟩ = some (.int .i64 ((rd_T41 l0_1 x10_2).f0)) := (blk_cell BK118.out 0).trans rfl
                   have hcz157_1 : w155.cell? ⟨gb118, 1, none⟩ = some (.int .i64 ((rd_T41 l0_1 x10_2).f1)) := (blk_cell BK118.out 1).trans rfl
                   have hcz157_2 : w155.cell? ⟨gb118, 2, none⟩ = some (.int .i64 ((rd_T41 l0_1 x10_2).f2)) := (blk_cell BK118.out 2).trans rfl
                   have hfz157_0 := blk_frozen BK118.out 0
                   have hfz157_1 := blk_frozen BK118.out 1
                   have hfz157_2 := blk_frozen BK118.out 2
                   try go_wp2
                   go_roundg k2
                   case measure => have := HK1.out; have := HK2.out; omega
                   case rel => exact ⟨(x62_2), (wrap64 (x62_2 + 1)), (by first | rfl | (simp; done) | (simp [*]; done)), (by first | rfl | (simp; done) | (simp [*]; done)), H', ⟨by have := HK1.out; have := HK2.out; omega⟩, ⟨by (with_reducible repeat (first | refine blk_drewN ?_ _ | refine blk_drew ?_ | refine blk_alloc ?_ _)); exact BK106.out⟩, ⟨by (with_reducible repeat (first | refine blk_drewN ?_ _ | refine blk_drew ?_ | refine blk_alloc ?_ _)); exact BK107.out⟩, ⟨belowNow⟩⟩
                 ·rw [if_neg c120] at H
                  have c120b0 : (t119 == t120) = false := beq_eq_false_iff_ne.mpr c120
                  have c120b1 : (t119 != t120) = true := bne_iff_ne.mpr c120
                  have H' := Aside0.mk H
                  clear H
                  have p113 : 0 ≤ (x62_2 : Int) := of_decide_eq_true (by first | (with_reducible assumption) | assumption)
                  have q113 : x62_2 < (l0_1.length : Int) := of_decide_eq_true (by first | (with_reducible assumption) | assumption)
                  obtain ⟨ad113, e113, hx113_0, hx113_1, hx113_2⟩ := at_T41 HR0_1.out x62_2 p113 q113
                  cases e113
                  replace hx113_0 := (HB.out.cell (World.block_lt_of_cell? w _ hx113_0)).trans hx113_0
                  replace hx113_1 := (HB.out.cell (World.block_lt_of_cell? w _ hx113_1)).trans hx113_1
                  replace hx113_2 := (HB.out.cell (World.block_lt_of_cell? w _ hx113_2)).trans hx113_2
                  replace p113 := eq_true p113
                  replace q113 := eq_true q113
                  try go_wp2_with (first | ((with_reducible refine gate_dst (N := 12) rfl ?_); refine box_event ?hg (N := 12) ?hd (cs := #[.int .i64 0, .int .i64 0, .int .i64 0]) (t := 41) ?hr ?_; (case hd => rfl); (case hg => rfl); (case hr => first | (go_simp; done) | (go_simp; rfl)); intro gb114 hg w158 hbox hb; have n0_ := Aside0.mk (blkStep (g := gb106) hb); have n1_ := Aside0.mk (blkStep (g := gb107) hb); have n2_ := Aside0.mk (below_step belowNow hb); have n3_ := Aside0.mk (hbox); have n4_ := Aside0.mk ((by rw [hg]; exact (below_size belowNow) : w.heap.size ≤ gb114)); have n5_ := n4_; have n6_ := Aside0.mk ((by rw [hg]; exact Nat.ne_of_lt (blkLt (g := gb106)) : gb106 ≠ gb114)); have n7_ := Aside0.mk ((by rw [hg]; exact Nat.ne_of_gt (blkLt (g := gb106)) : gb114 ≠ gb106)); have n8_ := Aside0.mk ((by rw [hg]; exact Nat.ne_of_lt (blkLt (g := gb107)) : gb107 ≠ gb114)); have n9_ := Aside0.mk ((by rw [hg]; exact Nat.ne_of_gt (blkLt (g := gb107)) : gb114 ≠ gb107)); clear BK106; clear BK107; clear HB; have BK106 := n0_; have BK107 := n1_; have HB := n2_; have BK114 := n3_; have GW114 := n4_; have GE114 := n5_; have NB106_114 := n6_; have NB114_106 := n7_; have NB107_114 := n8_; have NB114_107 := n9_; clear n0_ n1_ n2_ n3_ n4_ n5_ n6_ n7_ n8_ n9_; clear hb hbox hg; have hnb159 := NB114_106.out; have hnc159 := NB106_114.out; have hnb160 := NB114_107.out; have hnc160 := NB107_114.out; have hcz161_0 : w158.cell? ⟨gb114, 0, none⟩ = some (.int .i64 0) := (blk_cell BK114.out 0).trans rfl; have hcz161_1 : w158.cell? ⟨gb114, 1, none⟩ = some (.int .i64 0) := (blk_cell BK114.out 1).trans rfl; have hcz161_2 : w158.cell? ⟨gb114, 2, none⟩ = some (.int .i64 0) := (blk_cell BK114.out 2).trans rfl; have hfz161_0 := blk_frozen BK114.out 0; have hfz161_1 := blk_frozen BK114.out 1; have hfz161_2 := blk_frozen BK114.out 2))
                  have n0_ : Aside0 ((((w158.setCell ⟨gb114, 0, none⟩ (.int .i64 ((rd_T41 l0_1 x62_2).f0))).setCell ⟨gb114, 1, none⟩ (.int .i64 ((rd_T41 l0_1 x62_2).f1))).setCell ⟨gb114, 2, none⟩ (.int .i64 ((rd_T41 l0_1 x62_2).f2))).heap[gb106]? = some (.cells #[.int .i64 a0_0, .slice (some ad113) l0_1.length c0_1, .slice A0_2 l0_2.length c0_2, .int .i64 a0_3] 31 (0, 0))) := ⟨blkFars⟩
                  have n1_ : Aside0 ((((w158.setCell ⟨gb114, 0, none⟩ (.int .i64 ((rd_T41 l0_1 x62_2).f0))).setCell ⟨gb114, 1, none⟩ (.int .i64 ((rd_T41 l0_1 x62_2).f1))).setCell ⟨gb114, 2, none⟩ (.int .i64 ((rd_T41 l0_1 x62_2).f2))).heap[gb107]? = some (.cells #[.func (.func 72) #[] #[]] 106 (0, 0))) := ⟨blkFars⟩
                  have n2_ : Aside0 ((((w158.setCell ⟨gb114, 0, none⟩ (.int .i64 ((rd_T41 l0_1 x62_2).f0))).setCell ⟨gb114, 1, none⟩ (.int .i64 ((rd_T41 l0_1 x62_2).f1))).setCell ⟨gb114, 2, none⟩ (.int .i64 ((rd_T41 l0_1 x62_2).f2))).heap[gb114]? = some (.cells #[.int .i64 ((rd_T41 l0_1 x62_2).f0), .int .i64 ((rd_T41 l0_1 x62_2).f1), .int .i64 ((rd_T41 l0_1 x62_2).f2)] 41 (0, 0))) := ⟨by (with_reducible repeat (first | refine blk_drewN ?_ _ | refine blk_drew ?_ | refine blk_alloc ?_ _)); refine blk_put (cs := #[.int .i64 ((rd_T41 l0_1 x62_2).f0), .int .i64 ((rd_T41 l0_1 x62_2).f1), .int .i64 0]) ?_ 2 _ rfl; (with_reducible repeat (first | refine blk_drewN ?_ _ | refine blk_drew ?_ | refine blk_alloc ?_ _)); refine blk_put (cs := #[.int .i64 ((rd_T41 l0_1 x62_2).f0), .int .i64 0, .int .i64 0]) ?_ 1 _ rfl; (with_reducible repeat (first | refine blk_drewN ?_ _ | refine blk_drew ?_ | refine blk_alloc ?_ _)); refine blk_put (cs := #[.int .i64 0, .int .i64 0, .int .i64 0]) ?_ 0 _ rfl; (with_reducible repeat (first | refine blk_drewN ?_ _ | refine blk_drew ?_ | refine blk_alloc ?_ _)); exact BK114.out⟩
                  have n3_ : Aside0 (Below w.heap.size w (((w158.setCell ⟨gb114, 0, none⟩ (.int .i64 ((rd_T41 l0_1 x62_2).f0))).setCell ⟨gb114, 1, none⟩ (.int .i64 ((rd_T41 l0_1 x62_2).f1))).setCell ⟨gb114, 2, none⟩ (.int .i64 ((rd_T41 l0_1 x62_2).f2)))) := ⟨belowNow⟩
                  (try clear BK106)
                  (try clear BK107)
                  (try clear BK114)
                  (try clear HB)
                  generalize (((w158.setCell ⟨gb114, 0, none⟩ (.int .i64 ((rd_T41 l0_1 x62_2).f0))).setCell ⟨gb114, 1, none⟩ (.int .i64 ((rd_T41 l0_1 x62_2).f1))).setCell ⟨gb114, 2, none⟩ (.int .i64 ((rd_T41 l0_1 x62_2).f2))) = w162 at n0_ n1_ n2_ n3_ ⊢
                  have BK106 := n0_
                  have BK107 := n1_
                  have BK114 := n2_
                  have HB := n3_
                  clear n0_ n1_ n2_ n3_
                  have n0_ := Aside0.mk (blk_drew BK106.out)
                  have n1_ := Aside0.mk (blk_drew BK107.out)
                  have n2_ := Aside0.mk (blk_drew BK114.out)
                  have n3_ := Aside0.mk (below_drew1 HB.out)
                  clear BK106
                  clear BK107
                  clear BK114
                  clear HB
                  have BK106 := n0_
                  have BK107 := n1_
                  have BK114 := n2_
                  have HB := n3_
                  clear n0_ n1_ n2_ n3_
                  have p115 : 0 ≤ (x5_1 : Int) := of_decide_eq_true (by first | (with_reducible assumption) | assumption)
                  have q115 : x5_1 < (l0_2.length : Int) := of_decide_eq_true (by first | (with_reducible assumption) | assumption)
                  obtain ⟨ad115, e115, hx115_0, hx115_1, hx115_2, hx115_3⟩ := at_T70 HR0_2.out x5_1 p115 q115
                  have hw115_3 := hx115_3
                  have hw115_2 := hx115_2
                  have hw115_1 := hx115_1
                  have hw115_0 := hx115_0
                  cases e115
                  replace hx115_0 := (HB.out.cell (World.block_lt_of_cell? w _ hx115_0)).trans hx115_0
                  replace hx115_1 := (HB.out.cell (World.block_lt_of_cell? w _ hx115_1)).trans hx115_1
                  replace hx115_2 := (HB.out.cell (World.block_lt_of_cell? w _ hx115_2)).trans hx115_2
                  replace hx115_3 := (HB.out.cell (World.block_lt_of_cell? w _ hx115_3)).trans hx115_3
                  replace p115 := eq_true p115
                  replace q115 := eq_true q115
                  refine start_ (n := 9) (S := fun w' => w'.cell? ⟨gb107, 0, none⟩ = some (.func (.func 72) #[] #[]) ∧ True ∧ True ∧ w'.cell? ⟨gb106, 0, none⟩ = some (.int .i64 a0_0) ∧ w'.cell? ⟨gb106, 1, none⟩ = some (.slice (some ad113) l0_1.length c0_1) ∧ w'.cell? ⟨gb106, 2, none⟩ = some (.slice (some ad115) l0_2.length c0_2) ∧ w'.cell? ⟨gb106, 3, none⟩ = some (.int .i64 a0_3) ∧ w'.cell? ⟨gb114, 0, none⟩ = some (.int .i64 ((rd_T41 l0_1 x62_2).f0)) ∧ w'.cell? ⟨gb114, 1, none⟩ = some (.int .i64 ((rd_T41 l0_1 x62_2).f1)) ∧ w'.cell? ⟨gb114, 2, none⟩ = some (.int .i64 ((rd_T41 l0_1 x62_2).f2)) ∧ w'.cell? (ad115.add ((x5_1).toNat * 4)) = some (.int .i64 ((rd_T70 l0_2 x5_1).f0)) ∧ w'.cell? ⟨(ad115.add ((x5_1).toNat * 4)).block, (ad115.add ((x5_1).toNat * 4)).off + 1, none⟩ = some (.int .i64 ((rd_T70 l0_2 x5_1).f1)) ∧ w'.cell? ⟨(ad115.add ((x5_1).toNat * 4)).block, (ad115.add ((x5_1).toNat * 4)).off + 2, none⟩ = some (.int .i64 ((rd_T70 l0_2 x5_1).f2)) ∧ w'.cell? ⟨(ad115.add ((x5_1).toNat * 4)).block, (ad115.add ((x5_1).toNat * 4)).off + 3, none⟩ = some (.int .i64 ((rd_T70 l0_2 x5_1).f3))) (ds := []) #[false, false, false, false, false, false, false, false, false] (by kernel_rfl) rfl rfl ⟨(blk_cell BK107.out 0).trans rfl, trivial, trivial, (blk_cell BK106.out 0).trans rfl, (blk_cell BK106.out 1).trans rfl, (blk_cell BK106.out 2).trans rfl, (blk_cell BK106.out 3).trans rfl, (blk_cell BK114.out 0).trans rfl, (blk_cell BK114.out 1).trans rfl, (blk_cell BK114.out 2).trans rfl, ((HB.out.cell (World.block_lt_of_cell? w _ hw115_0)).trans hw115_0), ((HB.out.cell (World.block_lt_of_cell? w _ hw115_1)).trans hw115_1), ((HB.out.cell (World.block_lt_of_cell? w _ hw115_2)).trans hw115_2), ((HB.out.cell (World.block_lt_of_cell? w _ hw115_3)).trans hw115_3)⟩ (fun hHeld => ?_); refine with_tabW impl_Desk_next.tab18 impl_Desk_next.bits18 (fun HT_ HW_ => ?_)
                  generalize w162.drew = w163 at BK106 BK107 BK114 HB hx115_0 hx115_1 hx115_2 hx115_3 hHeld ⊢
                  refine pure_ (i := 1) (N := some 68) (v := ?_) (a' := ?_) #[false, true, false, false, false, false, false, false, false] rfl rfl (any_of HT_.out (by kernel_rfl)) (fun _ _ _ h => h) (Or.inl ⟨by rfl, ?_⟩) ?_ ?_
                  rotate_left
                  ·intro w'
                   go_simp
                   with_reducible rfl
                  rotate_left
                  ·simp only [Act.put, List.setIfInBounds_toArray, List.set_cons_zero, List.set_cons_succ, i64_w, i32_w]
                   rfl
                  refine pure_ (i := 3) (N := some 70) (v := ?_) (a' := ?_) #[false, true, false, true, false, false, false, false, false] rfl rfl (any_of HT_.out (by kernel_rfl)) (fun _ _ _ h => h) (Or.inl ⟨by rfl, ?_⟩) ?_ ?_
                  rotate_left
                  ·intro w'
                   go_simp
                   with_reducible rfl
                  rotate_left
                  ·simp only [Act.put, List.setIfInBounds_toArray, List.set_cons_zero, List.set_cons_succ, i64_w, i32_w]
                   rfl
                  refine take_ (i := 0) (N := some 67) (v := ?_) (a' := ?_) #[true, true, false, true, false, false, false, false, false] rfl rfl (take_ofW HT_.out HW_.out (by kernel_rfl)) (fun _ _ _ h => h) (Or.inl ⟨by rfl, ?_⟩) hHeld ?_ ?_
                  rotate_left
                  ·rintro w' ⟨s0, s1, s2, s3, s4, s5, s6, s7, s8, s9, s10, s11, s12, s13⟩
                   go_simp
                   with_reducible rfl
                  rotate_left
                  ·simp only [Act.put, List.setIfInBounds_toArray, List.set_cons_zero, List.set_cons_succ, i64_w, i32_w]
                   rfl
                  refine take_ (i := 2) (N := some 69) (v := ?_) (a' := ?_) #[true, true, true, true, false, false, false, false, false] rfl rfl (take_ofW HT_.out HW_.out (by kernel_rfl)) (fun _ _ _ h => h) (Or.inl ⟨by rfl, ?_⟩) hHeld ?_ ?_
                  rotate_left
                  ·rintro w' ⟨s0, s1, s2, s3, s4, s5, s6, s7, s8, s9, s10, s11, s12, s13⟩
                   go_simp
                   with_reducible rfl
                  rotate_left
                  ·simp only [Act.put, List.setIfInBounds_toArray, List.set_cons_zero, List.set_cons_succ, i64_w, i32_w]
                   rfl
                  refine pure_ (i := 4) (N := some 71) (v := ?_) (a' := ?_) #[true, true, true, true, true, false, false, false, false] rfl rfl (any_of HT_.out (by kernel_rfl)) (fun _ _ _ h => h) (Or.inl ⟨by rfl, ?_⟩) ?_ ?_
                  rotate_left
                  ·intro w'
                   go_simp
                   with_reducible rfl
                  rotate_left
                  ·simp only [Act.put, List.setIfInBounds_toArray, List.set_cons_zero, List.set_cons_succ, i64_w, i32_w]
                   rfl
                  refine take_ (i := 5) (N := some 72) (v := ?_) (a' := ?_) #[true, true, true, true, true, true, false, false, false] rfl rfl (take_ofW HT_.out HW_.out (by kernel_rfl)) (fun _ _ _ h => h) (Or.inl ⟨by rfl, ?_⟩) hHeld ?_ ?_
                  rotate_left
                  ·rintro w' ⟨s0, s1, s2, s3, s4, s5, s6, s7, s8, s9, s10, s11, s12, s13⟩
                   go_simp
                   with_reducible rfl
                  rotate_left
                  ·simp only [Act.put, List.setIfInBounds_toArray, List.set_cons_zero, List.set_cons_succ, i64_w, i32_w]
                   rfl
                  refine take_ (i := 6) (N := some 73) (v := ?_) (a' := ?_) #[true, true, true, true, true, true, true, false, false] rfl rfl (take_ofW HT_.out HW_.out (by kernel_rfl)) (fun _ _ _ h => h) (Or.inl ⟨by rfl, ?_⟩) hHeld ?_ ?_
                  rotate_left
                  ·rintro w' ⟨s0, s1, s2, s3, s4, s5, s6, s7, s8, s9, s10, s11, s12, s13⟩
                   go_simp
                   with_reducible rfl
                  rotate_left
                  ·simp only [Act.put, List.setIfInBounds_toArray, List.set_cons_zero, List.set_cons_succ, i64_w, i32_w]
                   rfl
                  refine one_ (i := 7) (N := some 74) #[true, true, true, true, true, true, true, true, false] rfl rfl (one_of HT_.out (by kernel_rfl)) (by decide) (fun K hK => ?_)
                  refine Clo.goesF_ (p := 67) rfl Try.func72 (by kernel_rfl) rfl #[.agg #[.int .i64 ((rd_T70 l0_2 x5_1).f0), .int .i64 ((rd_T70 l0_2 x5_1).f1), .int .i64 ((rd_T70 l0_2 x5_1).f2), .int .i64 ((rd_T70 l0_2 x5_1).f3)], .agg #[.int .i64 ((rd_T41 l0_1 x62_2).f0), .int .i64 ((rd_T41 l0_1 x62_2).f1), .int .i64 ((rd_T41 l0_1 x62_2).f2)]] (by rfl) rfl rfl (by (try simp only [List.map_toArray, List.map_cons, List.map_nil]); first | done | rfl | (simp only [List.length_drop, List.length_take]; rfl)) ?_
                  with_reducible refine (impl_Desk_next_1.calls ((rd_T70 l0_2 x5_1).f0) ((rd_T70 l0_2 x5_1).f1) ((rd_T70 l0_2 x5_1).f2) ((rd_T70 l0_2 x5_1).f3) ((rd_T41 l0_1 x62_2).f0) ((rd_T41 l0_1 x62_2).f1) ((rd_T41 l0_1 x62_2).f2) true _ A96.out).mono ?_
                  rintro e w164 ⟨rfl, hb⟩
                  refine ⟨_, rfl, ?_⟩
                  have n0_ := Aside0.mk (blkStep (g := gb106) hb)
                  have n1_ := Aside0.mk (blkStep (g := gb107) hb)
                  have n2_ := Aside0.mk (blkStep (g := gb114) hb)
                  have n3_ := Aside0.mk (below_step belowNow hb)
                  clear BK106
                  clear BK107
                  clear BK114
                  clear HB
                  have BK106 := n0_
                  have BK107 := n1_
                  have BK114 := n2_
                  have HB := n3_
                  clear n0_ n1_ n2_ n3_
                  (try clear hb)
                  (try clear hb2)
                  (try clear hk)
                  (try clear hi)
                  refine hK.out _ _ ⟨(blk_cell BK107.out 0).trans rfl, trivial, trivial, (blk_cell BK106.out 0).trans rfl, (blk_cell BK106.out 1).trans rfl, (blk_cell BK106.out 2).trans rfl, (blk_cell BK106.out 3).trans rfl, (blk_cell BK114.out 0).trans rfl, (blk_cell BK114.out 1).trans rfl, (blk_cell BK114.out 2).trans rfl, ((HB.out.cell (World.block_lt_of_cell? w _ hw115_0)).trans hw115_0), ((HB.out.cell (World.block_lt_of_cell? w _ hw115_1)).trans hw115_1), ((HB.out.cell (World.block_lt_of_cell? w _ hw115_2)).trans hw115_2), ((HB.out.cell (World.block_lt_of_cell? w _ hw115_3)).trans hw115_3)⟩ (fun hHeld => ?_)
                  clear hK K
                  refine norm_ (a' := ?_) ?_ ?_
                  rotate_left
                  ·show Act.put _ (some 74) _ = _
                   simp only [Act.put, List.setIfInBounds_toArray, List.set_cons_zero, List.set_cons_succ, i64_w, i32_w]
                   rfl
                  refine pure_ (i := 8) (N := some 75) (v := ?_) (a' := ?_) #[true, true, true, true, true, true, true, true, true] rfl rfl (any_of HT_.out (by kernel_rfl)) (fun _ _ _ h => h) (Or.inl ⟨by rfl, ?_⟩) ?_ ?_
                  rotate_left
                  ·intro w'
                   go_simp
                   with_reducible rfl
                  rotate_left
                  ·simp only [Act.put, List.setIfInBounds_toArray, List.set_cons_zero, List.set_cons_succ, i64_w, i32_w]
                   rfl
                  refine done_ (done_of HT_.out (by kernel_rfl)) ?_
                  have hnb165 := NB106_107.out
                  have hnc165 := NB107_106.out
                  have hcz166_0 : w164.cell? ⟨gb106, 0, none⟩ = some (.int .i64 a0_0) := (blk_cell BK106.out 0).trans rfl
                  have hcz166_1 : w164.cell? ⟨gb106, 1, none⟩ = some (.slice (some ad113) l0_1.length c0_1) := (blk_cell BK106.out 1).trans rfl
                  have hcz166_2 : w164.cell? ⟨gb106, 2, none⟩ = some (.slice (some ad115) l0_2.length c0_2) := (blk_cell BK106.out 2).trans rfl
                  have hcz166_3 : w164.cell? ⟨gb106, 3, none⟩ = some (.int .i64 a0_3) := (blk_cell BK106.out 3).trans rfl
                  have hfz166_0 := blk_frozen BK106.out 0
                  have hfz166_1 := blk_frozen BK106.out 1
                  have hfz166_2 := blk_frozen BK106.out 2
                  have hfz166_3 := blk_frozen BK106.out 3
                  have p117 : 0 ≤ (x10_2 : Int) := of_decide_eq_true (by first | (with_reducible assumption) | assumption)
                  have q117 : x10_2 < (l0_1.length : Int) := of_decide_eq_true (by first | (with_reducible assumption) | assumption)
                  obtain ⟨ad117, e117, hx117_0, hx117_1, hx117_2⟩ := at_T41 HR0_1.out x10_2 p117 q117
                  obtain rfl : ad113 = ad117 := (by injection e117)
                  replace hx117_0 := (HB.out.cell (World.block_lt_of_cell? w _ hx117_0)).trans hx117_0
                  replace hx117_1 := (HB.out.cell (World.block_lt_of_cell? w _ hx117_1)).trans hx117_1
                  replace hx117_2 := (HB.out.cell (World.block_lt_of_cell? w _ hx117_2)).trans hx117_2
                  replace p117 := eq_true p117
                  replace q117 := eq_true q117
                  try go_wp2_with (first | ((with_reducible refine gate_dst (N := 13) rfl ?_); refine box_event ?hg (N := 13) ?hd (cs := #[.int .i64 0, .int .i64 0, .int .i64 0]) (t := 41) ?hr ?_; (case hd => rfl); (case hg => rfl); (case hr => first | (go_simp; done) | (go_simp; rfl)); intro gb118 hg w167 hbox hb; have n0_ := Aside0.mk (blkStep (g := gb106) hb); have n1_ := Aside0.mk (blkStep (g := gb107) hb); have n2_ := Aside0.mk (blkStep (g := gb114) hb); have n3_ := Aside0.mk (below_step belowNow hb); have n4_ := Aside0.mk (hbox); have n5_ := Aside0.mk ((by rw [hg]; exact (below_size belowNow) : w.heap.size ≤ gb118)); have n6_ := n5_; have n7_ := Aside0.mk ((by rw [hg]; exact Nat.ne_of_lt (blkLt (g := gb106)) : gb106 ≠ gb118)); have n8_ := Aside0.mk ((by rw [hg]; exact Nat.ne_of_gt (blkLt (g := gb106)) : gb118 ≠ gb106)); have n9_ := Aside0.mk ((by rw [hg]; exact Nat.ne_of_lt (blkLt (g := gb107)) : gb107 ≠ gb118)); have n10_ := Aside0.mk ((by rw [hg]; exact Nat.ne_of_gt (blkLt (g := gb107)) : gb118 ≠ gb107)); have n11_ := Aside0.mk ((by rw [hg]; exact Nat.ne_of_lt (blkLt (g := gb114)) : gb114 ≠ gb118)); have n12_ := Aside0.mk ((by rw [hg]; exact Nat.ne_of_gt (blkLt (g := gb114)) : gb118 ≠ gb114)); clear BK106; clear BK107; clear BK114; clear HB; have BK106 := n0_; have BK107 := n1_; have BK114 := n2_; have HB := n3_; have BK118 := n4_; have GW118 := n5_; have GE118 := n6_; have NB106_118 := n7_; have NB118_106 := n8_; have NB107_118 := n9_; have NB118_107 := n10_; have NB114_118 := n11_; have NB118_114 := n12_; clear n0_ n1_ n2_ n3_ n4_ n5_ n6_ n7_ n8_ n9_ n10_ n11_ n12_; clear hb hbox hg; have hnb168 := NB118_106.out; have hnc168 := NB106_118.out; have hnb169 := NB118_107.out; have hnc169 := NB107_118.out; have hnb170 := NB118_114.out; have hnc170 := NB114_118.out; have hcz171_0 : w167.cell? ⟨gb118, 0, none⟩ = some (.int .i64 0) := (blk_cell BK118.out 0).trans rfl; have hcz171_1 : w167.cell? ⟨gb118, 1, none⟩ = some (.int .i64 0) := (blk_cell BK118.out 1).trans rfl; have hcz171_2 : w167.cell? ⟨gb118, 2, none⟩ = some (.int .i64 0) := (blk_cell BK118.out 2).trans rfl; have hfz171_0 := blk_frozen BK118.out 0; have hfz171_1 := blk_frozen BK118.out 1; have hfz171_2 := blk_frozen BK118.out 2))
                  have n0_ : Aside0 ((((w167.setCell ⟨gb118, 0, none⟩ (.int .i64 ((rd_T41 l0_1 x10_2).f0))).setCell ⟨gb118, 1, none⟩ (.int .i64 ((rd_T41 l0_1 x10_2).f1))).setCell ⟨gb118, 2, none⟩ (.int .i64 ((rd_T41 l0_1 x10_2).f2))).heap[gb106]? = some (.cells #[.int .i64 a0_0, .slice (some ad113) l0_1.length c0_1, .slice (some ad115) l0_2.length c0_2, .int .i64 a0_3] 31 (0, 0))) := ⟨blkFars⟩
                  have n1_ : Aside0 ((((w167.setCell ⟨gb118, 0, none⟩ (.int .i64 ((rd_T41 l0_1 x10_2).f0))).setCell ⟨gb118, 1, none⟩ (.int .i64 ((rd_T41 l0_1 x10_2).f1))).setCell ⟨gb118, 2, none⟩ (.int .i64 ((rd_T41 l0_1 x10_2).f2))).heap[gb107]? = some (.cells #[.func (.func 72) #[] #[]] 106 (0, 0))) := ⟨blkFars⟩
                  have n2_ : Aside0 ((((w167.setCell ⟨gb118, 0, none⟩ (.int .i64 ((rd_T41 l0_1 x10_2).f0))).setCell ⟨gb118, 1, none⟩ (.int .i64 ((rd_T41 l0_1 x10_2).f1))).setCell ⟨gb118, 2, none⟩ (.int .i64 ((rd_T41 l0_1 x10_2).f2))).heap[gb114]? = some (.cells #[.int .i64 ((rd_T41 l0_1 x62_2).f0), .int .i64 ((rd_T41 l0_1 x62_2).f1), .int .i64 ((rd_T41 l0_1 x62_2).f2)] 41 (0, 0))) := ⟨blkFars⟩
                  have n3_ : Aside0 ((((w167.setCell ⟨gb118, 0, none⟩ (.int .i64 ((rd_T41 l0_1 x10_2).f0))).setCell ⟨gb118, 1, none⟩ (.int .i64 ((rd_T41 l0_1 x10_2).f1))).setCell ⟨gb118, 2, none⟩ (.int .i64 ((rd_T41 l0_1 x10_2).f2))).heap[gb118]? = some (.cells #[.int .i64 ((rd_T41 l0_1 x10_2).f0), .int .i64 ((rd_T41 l0_1 x10_2).f1), .int .i64 ((rd_T41 l0_1 x10_2).f2)] 41 (0, 0))) := ⟨by (with_reducible repeat (first | refine blk_drewN ?_ _ | refine blk_drew ?_ | refine blk_alloc ?_ _)); refine blk_put (cs := #[.int .i64 ((rd_T41 l0_1 x10_2).f0), .int .i64 ((rd_T41 l0_1 x10_2).f1), .int .i64 0]) ?_ 2 _ rfl; (with_reducible repeat (first | refine blk_drewN ?_ _ | refine blk_drew ?_ | refine blk_alloc ?_ _)); refine blk_put (cs := #[.int .i64 ((rd_T41 l0_1 x10_2).f0), .int .i64 0, .int .i64 0]) ?_ 1 _ rfl; (with_reducible repeat (first | refine blk_drewN ?_ _ | refine blk_drew ?_ | refine blk_alloc ?_ _)); refine blk_put (cs := #[.int .i64 0, .int .i64 0, .int .i64 0]) ?_ 0 _ rfl; (with_reducible repeat (first | refine blk_drewN ?_ _ | refine blk_drew ?_ | refine blk_alloc ?_ _)); exact BK118.out⟩
                  have n4_ : Aside0 (Below w.heap.size w (((w167.setCell ⟨gb118, 0, none⟩ (.int .i64 ((rd_T41 l0_1 x10_2).f0))).setCell ⟨gb118, 1, none⟩ (.int .i64 ((rd_T41 l0_1 x10_2).f1))).setCell ⟨gb118, 2, none⟩ (.int .i64 ((rd_T41 l0_1 x10_2).f2)))) := ⟨belowNow⟩
                  (try clear BK106)
                  (try clear BK107)
                  (try clear BK114)
                  (try clear BK118)
                  (try clear HB)
                  generalize (((w167.setCell ⟨gb118, 0, none⟩ (.int .i64 ((rd_T41 l0_1 x10_2).f0))).setCell ⟨gb118, 1, none⟩ (.int .i64 ((rd_T41 l0_1 x10_2).f1))).setCell ⟨gb118, 2, none⟩ (.int .i64 ((rd_T41 l0_1 x10_2).f2))) = w172 at n0_ n1_ n2_ n3_ n4_ ⊢
                  have BK106 := n0_
                  have BK107 := n1_
                  have BK114 := n2_
                  have BK118 := n3_
                  have HB := n4_
                  clear n0_ n1_ n2_ n3_ n4_
                  have n0_ := Aside0.mk (blk_drew BK106.out)
                  have n1_ := Aside0.mk (blk_drew BK107.out)
                  have n2_ := Aside0.mk (blk_drew BK114.out)
                  have n3_ := Aside0.mk (blk_drew BK118.out)
                  have n4_ := Aside0.mk (below_drew1 HB.out)
                  clear BK106
                  clear BK107
                  clear BK114
                  clear BK118
                  clear HB
                  have BK106 := n0_
                  have BK107 := n1_
                  have BK114 := n2_
                  have BK118 := n3_
                  have HB := n4_
                  clear n0_ n1_ n2_ n3_ n4_
                  refine start_ (n := 10) (S := fun w' => w'.cell? ⟨gb114, 0, none⟩ = some (.int .i64 ((rd_T41 l0_1 x62_2).f0)) ∧ w'.cell? ⟨gb114, 1, none⟩ = some (.int .i64 ((rd_T41 l0_1 x62_2).f1)) ∧ w'.cell? ⟨gb114, 2, none⟩ = some (.int .i64 ((rd_T41 l0_1 x62_2).f2)) ∧ w'.cell? ⟨gb118, 0, none⟩ = some (.int .i64 ((rd_T41 l0_1 x10_2).f0)) ∧ w'.cell? ⟨gb118, 1, none⟩ = some (.int .i64 ((rd_T41 l0_1 x10_2).f1)) ∧ w'.cell? ⟨gb118, 2, none⟩ = some (.int .i64 ((rd_T41 l0_1 x10_2).f2))) (ds := []) #[false, false, false, false, false, false, false, false, false, false] (by kernel_rfl) rfl rfl ⟨(blk_cell BK114.out 0).trans rfl, (blk_cell BK114.out 1).trans rfl, (blk_cell BK114.out 2).trans rfl, (blk_cell BK118.out 0).trans rfl, (blk_cell BK118.out 1).trans rfl, (blk_cell BK118.out 2).trans rfl⟩ (fun hHeld => ?_); refine with_tabW impl_Desk_next.tab21 impl_Desk_next.bits21 (fun HT_ HW_ => ?_)
                  generalize w172.drew = w173 at BK106 BK107 BK114 BK118 HB hHeld ⊢
                  refine pure_ (i := 0) (N := some 83) (v := ?_) (a' := ?_) #[true, false, false, false, false, false, false, false, false, false] rfl rfl (any_of HT_.out (by kernel_rfl)) (fun _ _ _ h => h) (Or.inl ⟨by rfl, ?_⟩) ?_ ?_
                  rotate_left
                  ·intro w'
                   go_simp
                   with_reducible rfl
                  rotate_left
                  ·simp only [Act.put, List.setIfInBounds_toArray, List.set_cons_zero, List.set_cons_succ, i64_w, i32_w]
                   rfl
                  refine pure_ (i := 4) (N := some 87) (v := ?_) (a' := ?_) #[true, false, false, false, true, false, false, false, false, false] rfl rfl (any_of HT_.out (by kernel_rfl)) (fun _ _ _ h => h) (Or.inl ⟨by rfl, ?_⟩) ?_ ?_
                  rotate_left
                  ·intro w'
                   go_simp
                   with_reducible rfl
                  rotate_left
                  ·simp only [Act.put, List.setIfInBounds_toArray, List.set_cons_zero, List.set_cons_succ, i64_w, i32_w]
                   rfl
                  refine take_ (i := 1) (N := some 84) (v := ?_) (a' := ?_) #[true, true, false, false, true, false, false, false, false, false] rfl rfl (take_ofW HT_.out HW_.out (by kernel_rfl)) (fun _ _ _ h => h) (Or.inl ⟨by rfl, ?_⟩) hHeld ?_ ?_
                  rotate_left
                  ·rintro w' ⟨s0, s1, s2, s3, s4, s5⟩
                   go_simp
                   with_reducible rfl
                  rotate_left
                  ·simp only [Act.put, List.setIfInBounds_toArray, List.set_cons_zero, List.set_cons_succ, i64_w, i32_w]
                   rfl
                  refine pure_ (i := 2) (N := some 85) (v := ?_) (a' := ?_) #[true, true, true, false, true, false, false, false, false, false] rfl rfl (any_of HT_.out (by kernel_rfl)) (fun _ _ _ h => h) (Or.inl ⟨by rfl, ?_⟩) ?_ ?_
                  rotate_left
                  ·intro w'
                   go_simp
                   with_reducible rfl
                  rotate_left
                  ·simp only [Act.put, List.setIfInBounds_toArray, List.set_cons_zero, List.set_cons_succ, i64_w, i32_w]
                   rfl
                  refine take_ (i := 5) (N := some 88) (v := ?_) (a' := ?_) #[true, true, true, false, true, true, false, false, false, false] rfl rfl (take_ofW HT_.out HW_.out (by kernel_rfl)) (fun _ _ _ h => h) (Or.inl ⟨by rfl, ?_⟩) hHeld ?_ ?_
                  rotate_left
                  ·rintro w' ⟨s0, s1, s2, s3, s4, s5⟩
                   go_simp
                   with_reducible rfl
                  rotate_left
                  ·simp only [Act.put, List.setIfInBounds_toArray, List.set_cons_zero, List.set_cons_succ, i64_w, i32_w]
                   rfl
                  refine pure_ (i := 6) (N := some 89) (v := ?_) (a' := ?_) #[true, true, true, false, true, true, true, false, false, false] rfl rfl (any_of HT_.out (by kernel_rfl)) (fun _ _ _ h => h) (Or.inl ⟨by rfl, ?_⟩) ?_ ?_
                  rotate_left
                  ·intro w'
                   go_simp
                   with_reducible rfl
                  rotate_left
                  ·simp only [Act.put, List.setIfInBounds_toArray, List.set_cons_zero, List.set_cons_succ, i64_w, i32_w]
                   rfl
                  refine one_ (i := 3) (N := some 86) #[true, true, true, true, true, true, true, false, false, false] rfl rfl (one_of HT_.out (by kernel_rfl)) (by decide) (fun K hK => ?_)
                  refine goes_ Try.func74 (by kernel_rfl) rfl #[.int .u64 (IntKind.u64.wrap ((rd_T41 l0_1 x62_2).f0))] (by rfl) rfl rfl (by (try simp only [List.map_toArray, List.map_cons, List.map_nil]); first | done | rfl | (simp only [List.length_drop, List.length_take]; rfl)) ?_
                  with_reducible refine (bits_OnesCount.calls (IntKind.u64.wrap ((rd_T41 l0_1 x62_2).f0)) t119 _ A101.out).mono ?_
                  rintro e w' ⟨rfl, ⟨nd, rfl⟩⟩
                  refine ⟨_, rfl, ?_⟩
                  refine hK.out _ _ ⟨(blk_cell BK114.out 0).trans rfl, (blk_cell BK114.out 1).trans rfl, (blk_cell BK114.out 2).trans rfl, (blk_cell BK118.out 0).trans rfl, (blk_cell BK118.out 1).trans rfl, (blk_cell BK118.out 2).trans rfl⟩ (fun hHeld => ?_)
                  clear hK K
                  refine norm_ (a' := ?_) ?_ ?_
                  rotate_left
                  ·show Act.put _ (some 86) _ = _
                   simp only [Act.put, List.setIfInBounds_toArray, List.set_cons_zero, List.set_cons_succ, i64_w, i32_w]
                   rfl
                  refine one_ (i := 7) (N := some 90) #[true, true, true, true, true, true, true, true, false, false] rfl rfl (one_of HT_.out (by kernel_rfl)) (by decide) (fun K hK => ?_)
                  refine goes_ Try.func74 (by kernel_rfl) rfl #[.int .u64 (IntKind.u64.wrap ((rd_T41 l0_1 x10_2).f0))] (by rfl) rfl rfl (by (try simp only [List.map_toArray, List.map_cons, List.map_nil]); first | done | rfl | (simp only [List.length_drop, List.length_take]; rfl)) ?_
                  with_reducible refine (bits_OnesCount.calls (IntKind.u64.wrap ((rd_T41 l0_1 x10_2).f0)) t120 _ A102.out).mono ?_
                  rintro e w' ⟨rfl, ⟨nd, rfl⟩⟩
                  refine ⟨_, rfl, ?_⟩
                  refine hK.out _ _ ⟨(blk_cell BK114.out 0).trans rfl, (blk_cell BK114.out 1).trans rfl, (blk_cell BK114.out 2).trans rfl, (blk_cell BK118.out 0).trans rfl, (blk_cell BK118.out 1).trans rfl, (blk_cell BK118.out 2).trans rfl⟩ (fun hHeld => ?_)
                  clear hK K
                  refine norm_ (a' := ?_) ?_ ?_
                  rotate_left
                  ·show Act.put _ (some 90) _ = _
                   simp only [Act.put, List.setIfInBounds_toArray, List.set_cons_zero, List.set_cons_succ, i64_w, i32_w]
                   rfl
                  refine pure_ (i := 8) (N := some 14) (v := ?_) (a' := ?_) #[true, true, true, true, true, true, true, true, true, false] rfl rfl (any_of HT_.out (by kernel_rfl)) (fun _ _ _ h => h) (Or.inl ⟨by rfl, ?_⟩) ?_ ?_
                  rotate_left
                  ·intro w'
                   go_simp
                   with_reducible rfl
                  rotate_left
                  ·simp only [Act.put, List.setIfInBounds_toArray, List.set_cons_zero, List.set_cons_succ, i64_w, i32_w]
                   rfl
                  refine pure_ (i := 9) (N := some 15) (v := ?_) (a' := ?_) #[true, true, true, true, true, true, true, true, true, true] rfl rfl (any_of HT_.out (by kernel_rfl)) (fun _ _ _ h => h) (Or.inl ⟨by rfl, ?_⟩) ?_ ?_
                  rotate_left
                  ·intro w'
                   go_simp
                   with_reducible rfl
                  rotate_left
                  ·simp only [Act.put, List.setIfInBounds_toArray, List.set_cons_zero, List.set_cons_succ, i64_w, i32_w]
                   rfl
                  refine done_ (done_of HT_.out (by kernel_rfl)) ?_
                  try go_wp2
                  go_roundg k2
                  case measure => have := HK1.out; have := HK2.out; omega
                  case rel => exact ⟨(x62_2), (wrap64 (x62_2 + 1)), (by first | rfl | (simp; done) | (simp [*]; done)), (by first | rfl | (simp; done) | (simp [*]; done)), H', ⟨by have := HK1.out; have := HK2.out; omega⟩, ⟨by (with_reducible repeat (first | refine blk_drewN ?_ _ | refine blk_drew ?_ | refine blk_alloc ?_ _)); exact BK106.out⟩, ⟨by (with_reducible repeat (first | refine blk_drewN ?_ _ | refine blk_drew ?_ | refine blk_alloc ?_ _)); exact BK107.out⟩, ⟨belowNow⟩⟩
               ·rw [if_neg c100] at H
                exact absurd H (by simp)
              ·rw [if_neg c99] at H
               exact absurd H (by simp)
             ·rw [if_neg c98] at H
              have c98b0 : decide (0 ≤ x10_2) = false := decide_eq_false c98
              clear c98
              have H' := Aside0.mk H
              clear H
              have p113 : 0 ≤ (x62_2 : Int) := of_decide_eq_true (by first | (with_reducible assumption) | assumption)
              have q113 : x62_2 < (l0_1.length : Int) := of_decide_eq_true (by first | (with_reducible assumption) | assumption)
              obtain ⟨ad113, e113, hx113_0, hx113_1, hx113_2⟩ := at_T41 HR0_1.out x62_2 p113 q113
              cases e113
              replace hx113_0 := (HB.out.cell (World.block_lt_of_cell? w _ hx113_0)).trans hx113_0
              replace hx113_1 := (HB.out.cell (World.block_lt_of_cell? w _ hx113_1)).trans hx113_1
              replace hx113_2 := (HB.out.cell (World.block_lt_of_cell? w _ hx113_2)).trans hx113_2
              replace p113 := eq_true p113
              replace q113 := eq_true q113
              try go_wp2_with (first | ((with_reducible refine gate_dst (N := 12) rfl ?_); refine box_event ?hg (N := 12) ?hd (cs := #[.int .i64 0, .int .i64 0, .int .i64 0]) (t := 41) ?hr ?_; (case hd => rfl); (case hg => rfl); (case hr => first | (go_simp; done) | (go_simp; rfl)); intro gb114 hg w174 hbox hb; have n0_ := Aside0.mk (blkStep (g := gb106) hb); have n1_ := Aside0.mk (blkStep (g := gb107) hb); have n2_ := Aside0.mk (below_step belowNow hb); have n3_ := Aside0.mk (hbox); have n4_ := Aside0.mk ((by rw [hg]; exact (below_size belowNow) : w.heap.size ≤ gb114)); have n5_ := n4_; have n6_ := Aside0.mk ((by rw [hg]; exact Nat.ne_of_lt (blkLt (g := gb106)) : gb106 ≠ gb114)); have n7_ := Aside0.mk ((by rw [hg]; exact Nat.ne_of_gt (blkLt (g := gb106)) : gb114 ≠ gb106)); have n8_ := Aside0.mk ((by rw [hg]; exact Nat.ne_of_lt (blkLt (g := gb107)) : gb107 ≠ gb114)); have n9_ := Aside0.mk ((by rw [hg]; exact Nat.ne_of_gt (blkLt (g := gb107)) : gb114 ≠ gb107)); clear BK106; clear BK107; clear HB; have BK106 := n0_; have BK107 := n1_; have HB := n2_; have BK114 := n3_; have GW114 := n4_; have GE114 := n5_; have NB106_114 := n6_; have NB114_106 := n7_; have NB107_114 := n8_; have NB114_107 := n9_; clear n0_ n1_ n2_ n3_ n4_ n5_ n6_ n7_ n8_ n9_; clear hb hbox hg; have hnb175 := NB114_106.out; have hnc175 := NB106_114.out; have hnb176 := NB114_107.out; have hnc176 := NB107_114.out; have hcz177_0 : w174.cell? ⟨gb114, 0, none⟩ = some (.int .i64 0) := (blk_cell BK114.out 0).trans rfl; have hcz177_1 : w174.cell? ⟨gb114, 1, none⟩ = some (.int .i64 0) := (blk_cell BK114.out 1).trans rfl; have hcz177_2 : w174.cell? ⟨gb114, 2, none⟩ = some (.int .i64 0) := (blk_cell BK114.out 2).trans rfl; have hfz177_0 := blk_frozen BK114.out 0; have hfz177_1 := blk_frozen BK114.out 1; have hfz177_2 := blk_frozen BK114.out 2))
              have n0_ : Aside0 ((((w174.setCell ⟨gb114, 0, none⟩ (.int .i64 ((rd_T41 l0_1 x62_2).f0))).setCell ⟨gb114, 1, none⟩ (.int .i64 ((rd_T41 l0_1 x62_2).f1))).setCell ⟨gb114, 2, none⟩ (.int .i64 ((rd_T41 l0_1 x62_2).f2))).heap[gb106]? = some (.cells #[.int .i64 a0_0, .slice (some ad113) l0_1.length c0_1, .slice A0_2 l0_2.length c0_2, .int .i64 a0_3] 31 (0, 0))) := ⟨blkFars⟩
              have n1_ : Aside0 ((((w174.setCell ⟨gb114, 0, none⟩ (.int .i64 ((rd_T41 l0_1 x62_2).f0))).setCell ⟨gb114, 1, none⟩ (.int .i64 ((rd_T41 l0_1 x62_2).f1))).setCell ⟨gb114, 2, none⟩ (.int .i64 ((rd_T41 l0_1 x62_2).f2))).heap[gb107]? = some (.cells #[.func (.func 72) #[] #[]] 106 (0, 0))) := ⟨blkFars⟩
              have n2_ : Aside0 ((((w174.setCell ⟨gb114, 0, none⟩ (.int .i64 ((rd_T41 l0_1 x62_2).f0))).setCell ⟨gb114, 1, none⟩ (.int .i64 ((rd_T41 l0_1 x62_2).f1))).setCell ⟨gb114, 2, none⟩ (.int .i64 ((rd_T41 l0_1 x62_2).f2))).heap[gb114]? = some (.cells #[.int .i64 ((rd_T41 l0_1 x62_2).f0), .int .i64 ((rd_T41 l0_1 x62_2).f1), .int .i64 ((rd_T41 l0_1 x62_2).f2)] 41 (0, 0))) := ⟨by (with_reducible repeat (first | refine blk_drewN ?_ _ | refine blk_drew ?_ | refine blk_alloc ?_ _)); refine blk_put (cs := #[.int .i64 ((rd_T41 l0_1 x62_2).f0), .int .i64 ((rd_T41 l0_1 x62_2).f1), .int .i64 0]) ?_ 2 _ rfl; (with_reducible repeat (first | refine blk_drewN ?_ _ | refine blk_drew ?_ | refine blk_alloc ?_ _)); refine blk_put (cs := #[.int .i64 ((rd_T41 l0_1 x62_2).f0), .int .i64 0, .int .i64 0]) ?_ 1 _ rfl; (with_reducible repeat (first | refine blk_drewN ?_ _ | refine blk_drew ?_ | refine blk_alloc ?_ _)); refine blk_put (cs := #[.int .i64 0, .int .i64 0, .int .i64 0]) ?_ 0 _ rfl; (with_reducible repeat (first | refine blk_drewN ?_ _ | refine blk_drew ?_ | refine blk_alloc ?_ _)); exact BK114.out⟩
              have n3_ : Aside0 (Below w.heap.size w (((w174.setCell ⟨gb114, 0, none⟩ (.int .i64 ((rd_T41 l0_1 x62_2).f0))).setCell ⟨gb114, 1, none⟩ (.int .i64 ((rd_T41 l0_1 x62_2).f1))).setCell ⟨gb114, 2, none⟩ (.int .i64 ((rd_T41 l0_1 x62_2).f2)))) := ⟨belowNow⟩
              (try clear BK106)
              (try clear BK107)
              (try clear BK114)
              (try clear HB)
              generalize (((w174.setCell ⟨gb114, 0, none⟩ (.int .i64 ((rd_T41 l0_1 x62_2).f0))).setCell ⟨gb114, 1, none⟩ (.int .i64 ((rd_T41 l0_1 x62_2).f1))).setCell ⟨gb114, 2, none⟩ (.int .i64 ((rd_T41 l0_1 x62_2).f2))) = w178 at n0_ n1_ n2_ n3_ ⊢
              have BK106 := n0_
              have BK107 := n1_
              have BK114 := n2_
              have HB := n3_
              clear n0_ n1_ n2_ n3_
              have n0_ := Aside0.mk (blk_drew BK106.out)
              have n1_ := Aside0.mk (blk_drew BK107.out)
              have n2_ := Aside0.mk (blk_drew BK114.out)
              have n3_ := Aside0.mk (below_drew1 HB.out)
              clear BK106
              clear BK107
              clear BK114
              clear HB
              have BK106 := n0_
              have BK107 := n1_
              have BK114 := n2_
              have HB := n3_
              clear n0_ n1_ n2_ n3_
              have p115 : 0 ≤ (x5_1 : Int) := of_decide_eq_true (by first | (with_reducible assumption) | assumption)
              have q115 : x5_1 < (l0_2.length : Int) := of_decide_eq_true (by first | (with_reducible assumption) | assumption)
              obtain ⟨ad115, e115, hx115_0, hx115_1, hx115_2, hx115_3⟩ := at_T70 HR0_2.out x5_1 p115 q115
              have hw115_3 := hx115_3
              have hw115_2 := hx115_2
              have hw115_1 := hx115_1
              have hw115_0 := hx115_0
              cases e115
              replace hx115_0 := (HB.out.cell (World.block_lt_of_cell? w _ hx115_0)).trans hx115_0
              replace hx115_1 := (HB.out.cell (World.block_lt_of_cell? w _ hx115_1)).trans hx115_1
              replace hx115_2 := (HB.out.cell (World.block_lt_of_cell? w _ hx115_2)).trans hx115_2
              replace hx115_3 := (HB.out.cell (World.block_lt_of_cell? w _ hx115_3)).trans hx115_3
              replace p115 := eq_true p115
              replace q115 := eq_true q115
              refine start_ (n := 9) (S := fun w' => w'.cell? ⟨gb107, 0, none⟩ = some (.func (.func 72) #[] #[]) ∧ True ∧ True ∧ w'.cell? ⟨gb106, 0, none⟩ = some (.int .i64 a0_0) ∧ w'.cell? ⟨gb106, 1, none⟩ = some (.slice (some ad113) l0_1.length c0_1) ∧ w'.cell? ⟨gb106, 2, none⟩ = some (.slice (some ad115) l0_2.length c0_2) ∧ w'.cell? ⟨gb106, 3, none⟩ = some (.int .i64 a0_3) ∧ w'.cell? ⟨gb114, 0, none⟩ = some (.int .i64 ((rd_T41 l0_1 x62_2).f0)) ∧ w'.cell? ⟨gb114, 1, none⟩ = some (.int .i64 ((rd_T41 l0_1 x62_2).f1)) ∧ w'.cell? ⟨gb114, 2, none⟩ = some (.int .i64 ((rd_T41 l0_1 x62_2).f2)) ∧ w'.cell? (ad115.add ((x5_1).toNat * 4)) = some (.int .i64 ((rd_T70 l0_2 x5_1).f0)) ∧ w'.cell? ⟨(ad115.add ((x5_1).toNat * 4)).block, (ad115.add ((x5_1).toNat * 4)).off + 1, none⟩ = some (.int .i64 ((rd_T70 l0_2 x5_1).f1)) ∧ w'.cell? ⟨(ad115.add ((x5_1).toNat * 4)).block, (ad115.add ((x5_1).toNat * 4)).off + 2, none⟩ = some (.int .i64 ((rd_T70 l0_2 x5_1).f2)) ∧ w'.cell? ⟨(ad115.add ((x5_1).toNat * 4)).block, (ad115.add ((x5_1).toNat * 4)).off + 3, none⟩ = some (.int .i64 ((rd_T70 l0_2 x5_1).f3))) (ds := []) #[false, false, false, false, false, false, false, false, false] (by kernel_rfl) rfl rfl ⟨(blk_cell BK107.out 0).trans rfl, trivial, trivial, (blk_cell BK106.out 0).trans rfl, (blk_cell BK106.out 1).trans rfl, (blk_cell BK106.out 2).trans rfl, (blk_cell BK106.out 3).trans rfl, (blk_cell BK114.out 0).trans rfl, (blk_cell BK114.out 1).trans rfl, (blk_cell BK114.out 2).trans rfl, ((HB.out.cell (World.block_lt_of_cell? w _ hw115_0)).trans hw115_0), ((HB.out.cell (World.block_lt_of_cell? w _ hw115_1)).trans hw115_1), ((HB.out.cell (World.block_lt_of_cell? w _ hw115_2)).trans hw115_2), ((HB.out.cell (World.block_lt_of_cell? w _ hw115_3)).trans hw115_3)⟩ (fun hHeld => ?_); refine with_tabW impl_Desk_next.tab18 impl_Desk_next.bits18 (fun HT_ HW_ => ?_)
              generalize w178.drew = w179 at BK106 BK107 BK114 HB hx115_0 hx115_1 hx115_2 hx115_3 hHeld ⊢
              refine pure_ (i := 1) (N := some 68) (v := ?_) (a' := ?_) #[false, true, false, false, false, false, false, false, false] rfl rfl (any_of HT_.out (by kernel_rfl)) (fun _ _ _ h => h) (Or.inl ⟨by rfl, ?_⟩) ?_ ?_
              rotate_left
              ·intro w'
               go_simp
               with_reducible rfl
              rotate_left
              ·simp only [Act.put, List.setIfInBounds_toArray, List.set_cons_zero, List.set_cons_succ, i64_w, i32_w]
               rfl
              refine pure_ (i := 3) (N := some 70) (v := ?_) (a' := ?_) #[false, true, false, true, false, false, false, false, false] rfl rfl (any_of HT_.out (by kernel_rfl)) (fun _ _ _ h => h) (Or.inl ⟨by rfl, ?_⟩) ?_ ?_
              rotate_left
              ·intro w'
               go_simp
               with_reducible rfl
              rotate_left
              ·simp only [Act.put, List.setIfInBounds_toArray, List.set_cons_zero, List.set_cons_succ, i64_w, i32_w]
               rfl
              refine take_ (i := 0) (N := some 67) (v := ?_) (a' := ?_) #[true, true, false, true, false, false, false, false, false] rfl rfl (take_ofW HT_.out HW_.out (by kernel_rfl)) (fun _ _ _ h => h) (Or.inl ⟨by rfl, ?_⟩) hHeld ?_ ?_
              rotate_left
              ·rintro w' ⟨s0, s1, s2, s3, s4, s5, s6, s7, s8, s9, s10, s11, s12, s13⟩
               go_simp
               with_reducible rfl
              rotate_left
              ·simp only [Act.put, List.setIfInBounds_toArray, List.set_cons_zero, List.set_cons_succ, i64_w, i32_w]
               rfl
              refine take_ (i := 2) (N := some 69) (v := ?_) (a' := ?_) #[true, true, true, true, false, false, false, false, false] rfl rfl (take_ofW HT_.out HW_.out (by kernel_rfl)) (fun _ _ _ h => h) (Or.inl ⟨by rfl, ?_⟩) hHeld ?_ ?_
              rotate_left
              ·rintro w' ⟨s0, s1, s2, s3, s4, s5, s6, s7, s8, s9, s10, s11, s12, s13⟩
               go_simp
               with_reducible rfl
              rotate_left
              ·simp only [Act.put, List.setIfInBounds_toArray, List.set_cons_zero, List.set_cons_succ, i64_w, i32_w]
               rfl
              refine pure_ (i := 4) (N := some 71) (v := ?_) (a' := ?_) #[true, true, true, true, true, false, false, false, false] rfl rfl (any_of HT_.out (by kernel_rfl)) (fun _ _ _ h => h) (Or.inl ⟨by rfl, ?_⟩) ?_ ?_
              rotate_left
              ·intro w'
               go_simp
               with_reducible rfl
              rotate_left
              ·simp only [Act.put, List.setIfInBounds_toArray, List.set_cons_zero, List.set_cons_succ, i64_w, i32_w]
               rfl
              refine take_ (i := 5) (N := some 72) (v := ?_) (a' := ?_) #[true, true, true, true, true, true, false, false, false] rfl rfl (take_ofW HT_.out HW_.out (by kernel_rfl)) (fun _ _ _ h => h) (Or.inl ⟨by rfl, ?_⟩) hHeld ?_ ?_
              rotate_left
              ·rintro w' ⟨s0, s1, s2, s3, s4, s5, s6, s7, s8, s9, s10, s11, s12, s13⟩
               go_simp
               with_reducible rfl
              rotate_left
              ·simp only [Act.put, List.setIfInBounds_toArray, List.set_cons_zero, List.set_cons_succ, i64_w, i32_w]
               rfl
              refine take_ (i := 6) (N := some 73) (v := ?_) (a' := ?_) #[true, true, true, true, true, true, true, false, false] rfl rfl (take_ofW HT_.out HW_.out (by kernel_rfl)) (fun _ _ _ h => h) (Or.inl ⟨by rfl, ?_⟩) hHeld ?_ ?_
              rotate_left
              ·rintro w' ⟨s0, s1, s2, s3, s4, s5, s6, s7, s8, s9, s10, s11, s12, s13⟩
               go_simp
               with_reducible rfl
              rotate_left
              ·simp only [Act.put, List.setIfInBounds_toArray, List.set_cons_zero, List.set_cons_succ, i64_w, i32_w]
               rfl
              refine one_ (i := 7) (N := some 74) #[true, true, true, true, true, true, true, true, false] rfl rfl (one_of HT_.out (by kernel_rfl)) (by decide) (fun K hK => ?_)
              refine Clo.goesF_ (p := 67) rfl Try.func72 (by kernel_rfl) rfl #[.agg #[.int .i64 ((rd_T70 l0_2 x5_1).f0), .int .i64 ((rd_T70 l0_2 x5_1).f1), .int .i64 ((rd_T70 l0_2 x5_1).f2), .int .i64 ((rd_T70 l0_2 x5_1).f3)], .agg #[.int .i64 ((rd_T41 l0_1 x62_2).f0), .int .i64 ((rd_T41 l0_1 x62_2).f1), .int .i64 ((rd_T41 l0_1 x62_2).f2)]] (by rfl) rfl rfl (by (try simp only [List.map_toArray, List.map_cons, List.map_nil]); first | done | rfl | (simp only [List.length_drop, List.length_take]; rfl)) ?_
              with_reducible refine (impl_Desk_next_1.calls ((rd_T70 l0_2 x5_1).f0) ((rd_T70 l0_2 x5_1).f1) ((rd_T70 l0_2 x5_1).f2) ((rd_T70 l0_2 x5_1).f3) ((rd_T41 l0_1 x62_2).f0) ((rd_T41 l0_1 x62_2).f1) ((rd_T41 l0_1 x62_2).f2) true _ A96.out).mono ?_
              rintro e w180 ⟨rfl, hb⟩
              refine ⟨_, rfl, ?_⟩
              have n0_ := Aside0.mk (blkStep (g := gb106) hb)
              have n1_ := Aside0.mk (blkStep (g := gb107) hb)
              have n2_ := Aside0.mk (blkStep (g := gb114) hb)
              have n3_ := Aside0.mk (below_step belowNow hb)
              clear BK106
              clear BK107
              clear BK114
              clear HB
              have BK106 := n0_
              have BK107 := n1_
              have BK114 := n2_
              have HB := n3_
              clear n0_ n1_ n2_ n3_
              (try clear hb)
              (try clear hb2)
              (try clear hk)
              (try clear hi)
              refine hK.out _ _ ⟨(blk_cell BK107.out 0).trans rfl, trivial, trivial, (blk_cell BK106.out 0).trans rfl, (blk_cell BK106.out 1).trans rfl, (blk_cell BK106.out 2).trans rfl, (blk_cell BK106.out 3).trans rfl, (blk_cell BK114.out 0).trans rfl, (blk_cell BK114.out 1).trans rfl, (blk_cell BK114.out 2).trans rfl, ((HB.out.cell (World.block_lt_of_cell? w _ hw115_0)).trans hw115_0), ((HB.out.cell (World.block_lt_of_cell? w _ hw115_1)).trans hw115_1), ((HB.out.cell (World.block_lt_of_cell? w _ hw115_2)).trans hw115_2), ((HB.out.cell (World.block_lt_of_cell? w _ hw115_3)).trans hw115_3)⟩ (fun hHeld => ?_)
              clear hK K
              refine norm_ (a' := ?_) ?_ ?_
              rotate_left
              ·show Act.put _ (some 74) _ = _
               simp only [Act.put, List.setIfInBounds_toArray, List.set_cons_zero, List.set_cons_succ, i64_w, i32_w]
               rfl
              refine pure_ (i := 8) (N := some 75) (v := ?_) (a' := ?_) #[true, true, true, true, true, true, true, true, true] rfl rfl (any_of HT_.out (by kernel_rfl)) (fun _ _ _ h => h) (Or.inl ⟨by rfl, ?_⟩) ?_ ?_
              rotate_left
              ·intro w'
               go_simp
               with_reducible rfl
              rotate_left
              ·simp only [Act.put, List.setIfInBounds_toArray, List.set_cons_zero, List.set_cons_succ, i64_w, i32_w]
               rfl
              refine done_ (done_of HT_.out (by kernel_rfl)) ?_
              try go_wp2
              go_roundg k2
              case measure => have := HK1.out; have := HK2.out; omega
              case rel => exact ⟨(x62_2), (wrap64 (x62_2 + 1)), (by first | rfl | (simp; done) | (simp [*]; done)), (by first | rfl | (simp; done) | (simp [*]; done)), H', ⟨by have := HK1.out; have := HK2.out; omega⟩, ⟨by (with_reducible repeat (first | refine blk_drewN ?_ _ | refine blk_drew ?_ | refine blk_alloc ?_ _)); exact BK106.out⟩, ⟨by (with_reducible repeat (first | refine blk_drewN ?_ _ | refine blk_drew ?_ | refine blk_alloc ?_ _)); exact BK107.out⟩, ⟨belowNow⟩⟩
            ·replace c97 := Bool.eq_false_iff.mpr c97
             subst c97
             have H1 : (impl_Desk_next.l1 k2 x5_1 x10_2 l0_1 (l0_1.length : Int) (wrap64 (x62_2 + 1)) a0_0 l0_1 l0_2 a0_3) = some (r1, r2, r3) := by rw [if_neg (show ¬ (false = true) by decide)] at H; exact H
             clear H
             have H := H1
             clear H1
             have H' := Aside0.mk H
             clear H
             have p113 : 0 ≤ (x62_2 : Int) := of_decide_eq_true (by first | (with_reducible assumption) | assumption)
             have q113 : x62_2 < (l0_1.length : Int) := of_decide_eq_true (by first | (with_reducible assumption) | assumption)
             obtain ⟨ad113, e113, hx113_0, hx113_1, hx113_2⟩ := at_T41 HR0_1.out x62_2 p113 q113
             cases e113
             replace hx113_0 := (HB.out.cell (World.block_lt_of_cell? w _ hx113_0)).trans hx113_0
             replace hx113_1 := (HB.out.cell (World.block_lt_of_cell? w _ hx113_1)).trans hx113_1
             replace hx113_2 := (HB.out.cell (World.block_lt_of_cell? w _ hx113_2)).trans hx113_2
             replace p113 := eq_true p113
             replace q113 := eq_true q113
             try go_wp2_with (first | ((with_reducible refine gate_dst (N := 12) rfl ?_); refine box_event ?hg (N := 12) ?hd (cs := #[.int .i64 0, .int .i64 0, .int .i64 0]) (t := 41) ?hr ?_; (case hd => rfl); (case hg => rfl); (case hr => first | (go_simp; done) | (go_simp; rfl)); intro gb114 hg w181 hbox hb; have n0_ := Aside0.mk (blkStep (g := gb106) hb); have n1_ := Aside0.mk (blkStep (g := gb107) hb); have n2_ := Aside0.mk (below_step belowNow hb); have n3_ := Aside0.mk (hbox); have n4_ := Aside0.mk ((by rw [hg]; exact (below_size belowNow) : w.heap.size ≤ gb114)); have n5_ := n4_; have n6_ := Aside0.mk ((by rw [hg]; exact Nat.ne_of_lt (blkLt (g := gb106)) : gb106 ≠ gb114)); have n7_ := Aside0.mk ((by rw [hg]; exact Nat.ne_of_gt (blkLt (g := gb106)) : gb114 ≠ gb106)); have n8_ := Aside0.mk ((by rw [hg]; exact Nat.ne_of_lt (blkLt (g := gb107)) : gb107 ≠ gb114)); have n9_ := Aside0.mk ((by rw [hg]; exact Nat.ne_of_gt (blkLt (g := gb107)) : gb114 ≠ gb107)); clear BK106; clear BK107; clear HB; have BK106 := n0_; have BK107 := n1_; have HB := n2_; have BK114 := n3_; have GW114 := n4_; have GE114 := n5_; have NB106_114 := n6_; have NB114_106 := n7_; have NB107_114 := n8_; have NB114_107 := n9_; clear n0_ n1_ n2_ n3_ n4_ n5_ n6_ n7_ n8_ n9_; clear hb hbox hg; have hnb182 := NB114_106.out; have hnc182 := NB106_114.out; have hnb183 := NB114_107.out; have hnc183 := NB107_114.out; have hcz184_0 : w181.cell? ⟨gb114, 0, none⟩ = some (.int .i64 0) := (blk_cell BK114.out 0).trans rfl; have hcz184_1 : w181.cell? ⟨gb114, 1, none⟩ = some (.int .i64 0) := (blk_cell BK114.out 1).trans rfl; have hcz184_2 : w181.cell? ⟨gb114, 2, none⟩ = some (.int .i64 0) := (blk_cell BK114.out 2).trans rfl; have hfz184_0 := blk_frozen BK114.out 0; have hfz184_1 := blk_frozen BK114.out 1; have hfz184_2 := blk_frozen BK114.out 2))
             have n0_ : Aside0 ((((w181.setCell ⟨gb114, 0, none⟩ (.int .i64 ((rd_T41 l0_1 x62_2).f0))).setCell ⟨gb114, 1, none⟩ (.int .i64 ((rd_T41 l0_1 x62_2).f1))).setCell ⟨gb114, 2, none⟩ (.int .i64 ((rd_T41 l0_1 x62_2).f2))).heap[gb106]? = some (.cells #[.int .i64 a0_0, .slice (some ad113) l0_1.length c0_1, .slice A0_2 l0_2.length c0_2, .int .i64 a0_3] 31 (0, 0))) := ⟨blkFars⟩
             have n1_ : Aside0 ((((w181.setCell ⟨gb114, 0, none⟩ (.int .i64 ((rd_T41 l0_1 x62_2).f0))).setCell ⟨gb114, 1, none⟩ (.int .i64 ((rd_T41 l0_1 x62_2).f1))).setCell ⟨gb114, 2, none⟩ (.int .i64 ((rd_T41 l0_1 x62_2).f2))).heap[gb107]? = some (.cells #[.func (.func 72) #[] #[]] 106 (0, 0))) := ⟨blkFars⟩
             have n2_ : Aside0 ((((w181.setCell ⟨gb114, 0, none⟩ (.int .i64 ((rd_T41 l0_1 x62_2).f0))).setCell ⟨gb114, 1, none⟩ (.int .i64 ((rd_T41 l0_1 x62_2).f1))).setCell ⟨gb114, 2, none⟩ (.int .i64 ((rd_T41 l0_1 x62_2).f2))).heap[gb114]? = some (.cells #[.int .i64 ((rd_T41 l0_1 x62_2).f0), .int .i64 ((rd_T41 l0_1 x62_2).f1), .int .i64 ((rd_T41 l0_1 x62_2).f2)] 41 (0, 0))) := ⟨by (with_reducible repeat (first | refine blk_drewN ?_ _ | refine blk_drew ?_ | refine blk_alloc ?_ _)); refine blk_put (cs := #[.int .i64 ((rd_T41 l0_1 x62_2).f0), .int .i64 ((rd_T41 l0_1 x62_2).f1), .int .i64 0]) ?_ 2 _ rfl; (with_reducible repeat (first | refine blk_drewN ?_ _ | refine blk_drew ?_ | refine blk_alloc ?_ _)); refine blk_put (cs := #[.int .i64 ((rd_T41 l0_1 x62_2).f0), .int .i64 0, .int .i64 0]) ?_ 1 _ rfl; (with_reducible repeat (first | refine blk_drewN ?_ _ | refine blk_drew ?_ | refine blk_alloc ?_ _)); refine blk_put (cs := #[.int .i64 0, .int .i64 0, .int .i64 0]) ?_ 0 _ rfl; (with_reducible repeat (first | refine blk_drewN ?_ _ | refine blk_drew ?_ | refine blk_alloc ?_ _)); exact BK114.out⟩
             have n3_ : Aside0 (Below w.heap.size w (((w181.setCell ⟨gb114, 0, none⟩ (.int .i64 ((rd_T41 l0_1 x62_2).f0))).setCell ⟨gb114, 1, none⟩ (.int .i64 ((rd_T41 l0_1 x62_2).f1))).setCell ⟨gb114, 2, none⟩ (.int .i64 ((rd_T41 l0_1 x62_2).f2)))) := ⟨belowNow⟩
             (try clear BK106)
             (try clear BK107)
             (try clear BK114)
             (try clear HB)
             generalize (((w181.setCell ⟨gb114, 0, none⟩ (.int .i64 ((rd_T41 l0_1 x62_2).f0))).setCell ⟨gb114, 1, none⟩ (.int .i64 ((rd_T41 l0_1 x62_2).f1))).setCell ⟨gb114, 2, none⟩ (.int .i64 ((rd_T41 l0_1 x62_2).f2))) = w185 at n0_ n1_ n2_ n3_ ⊢
             have BK106 := n0_
             have BK107 := n1_
             have BK114 := n2_
             have HB := n3_
             clear n0_ n1_ n2_ n3_
             have n0_ := Aside0.mk (blk_drew BK106.out)
             have n1_ := Aside0.mk (blk_drew BK107.out)
             have n2_ := Aside0.mk (blk_drew BK114.out)
             have n3_ := Aside0.mk (below_drew1 HB.out)
             clear BK106
             clear BK107
             clear BK114
             clear HB
             have BK106 := n0_
             have BK107 := n1_
             have BK114 := n2_
             have HB := n3_
             clear n0_ n1_ n2_ n3_
             have p115 : 0 ≤ (x5_1 : Int) := of_decide_eq_true (by first | (with_reducible assumption) | assumption)
             have q115 : x5_1 < (l0_2.length : Int) := of_decide_eq_true (by first | (with_reducible assumption) | assumption)
             obtain ⟨ad115, e115, hx115_0, hx115_1, hx115_2, hx115_3⟩ := at_T70 HR0_2.out x5_1 p115 q115
             have hw115_3 := hx115_3
             have hw115_2 := hx115_2
             have hw115_1 := hx115_1
             have hw115_0 := hx115_0
             cases e115
             replace hx115_0 := (HB.out.cell (World.block_lt_of_cell? w _ hx115_0)).trans hx115_0
             replace hx115_1 := (HB.out.cell (World.block_lt_of_cell? w _ hx115_1)).trans hx115_1
             replace hx115_2 := (HB.out.cell (World.block_lt_of_cell? w _ hx115_2)).trans hx115_2
             replace hx115_3 := (HB.out.cell (World.block_lt_of_cell? w _ hx115_3)).trans hx115_3
             replace p115 := eq_true p115
             replace q115 := eq_true q115
             refine start_ (n := 9) (S := fun w' => w'.cell? ⟨gb107, 0, none⟩ = some (.func (.func 72) #[] #[]) ∧ True ∧ True ∧ w'.cell? ⟨gb106, 0, none⟩ = some (.int .i64 a0_0) ∧ w'.cell? ⟨gb106, 1, none⟩ = some (.slice (some ad113) l0_1.length c0_1) ∧ w'.cell? ⟨gb106, 2, none⟩ = some (.slice (some ad115) l0_2.length c0_2) ∧ w'.cell? ⟨gb106, 3, none⟩ = some (.int .i64 a0_3) ∧ w'.cell? ⟨gb114, 0, none⟩ = some (.int .i64 ((rd_T41 l0_1 x62_2).f0)) ∧ w'.cell? ⟨gb114, 1, none⟩ = some (.int .i64 ((rd_T41 l0_1 x62_2).f1)) ∧ w'.cell? ⟨gb114, 2, none⟩ = some (.int .i64 ((rd_T41 l0_1 x62_2).f2)) ∧ w'.cell? (ad115.add ((x5_1).toNat * 4)) = some (.int .i64 ((rd_T70 l0_2 x5_1).f0)) ∧ w'.cell? ⟨(ad115.add ((x5_1).toNat * 4)).block, (ad115.add ((x5_1).toNat * 4)).off + 1, none⟩ = some (.int .i64 ((rd_T70 l0_2 x5_1).f1)) ∧ w'.cell? ⟨(ad115.add ((x5_1).toNat * 4)).block, (ad115.add ((x5_1).toNat * 4)).off + 2, none⟩ = some (.int .i64 ((rd_T70 l0_2 x5_1).f2)) ∧ w'.cell? ⟨(ad115.add ((x5_1).toNat * 4)).block, (ad115.add ((x5_1).toNat * 4)).off + 3, none⟩ = some (.int .i64 ((rd_T70 l0_2 x5_1).f3))) (ds := []) #[false, false, false, false, false, false, false, false, false] (by kernel_rfl) rfl rfl ⟨(blk_cell BK107.out 0).trans rfl, trivial, trivial, (blk_cell BK106.out 0).trans rfl, (blk_cell BK106.out 1).trans rfl, (blk_cell BK106.out 2).trans rfl, (blk_cell BK106.out 3).trans rfl, (blk_cell BK114.out 0).trans rfl, (blk_cell BK114.out 1).trans rfl, (blk_cell BK114.out 2).trans rfl, ((HB.out.cell (World.block_lt_of_cell? w _ hw115_0)).trans hw115_0), ((HB.out.cell (World.block_lt_of_cell? w _ hw115_1)).trans hw115_1), ((HB.out.cell (World.block_lt_of_cell? w _ hw115_2)).trans hw115_2), ((HB.out.cell (World.block_lt_of_cell? w _ hw115_3)).trans hw115_3)⟩ (fun hHeld => ?_); refine with_tabW impl_Desk_next.tab18 impl_Desk_next.bits18 (fun HT_ HW_ => ?_)
             generalize w185.drew = w186 at BK106 BK107 BK114 HB hx115_0 hx115_1 hx115_2 hx115_3 hHeld ⊢
             refine pure_ (i := 1) (N := some 68) (v := ?_) (a' := ?_) #[false, true, false, false, false, false, false, false, false] rfl rfl (any_of HT_.out (by kernel_rfl)) (fun _ _ _ h => h) (Or.inl ⟨by rfl, ?_⟩) ?_ ?_
             rotate_left
             ·intro w'
              go_simp
              with_reducible rfl
             rotate_left
             ·simp only [Act.put, List.setIfInBounds_toArray, List.set_cons_zero, List.set_cons_succ, i64_w, i32_w]
              rfl
             refine pure_ (i := 3) (N := some 70) (v := ?_) (a' := ?_) #[false, true, false, true, false, false, false, false, false] rfl rfl (any_of HT_.out (by kernel_rfl)) (fun _ _ _ h => h) (Or.inl ⟨by rfl, ?_⟩) ?_ ?_
             rotate_left
             ·intro w'
              go_simp
              with_reducible rfl
             rotate_left
             ·simp only [Act.put, List.setIfInBounds_toArray, List.set_cons_zero, List.set_cons_succ, i64_w, i32_w]
              rfl
             refine take_ (i := 0) (N := some 67) (v := ?_) (a' := ?_) #[true, true, false, true, false, false, false, false, false] rfl rfl (take_ofW HT_.out HW_.out (by kernel_rfl)) (fun _ _ _ h => h) (Or.inl ⟨by rfl, ?_⟩) hHeld ?_ ?_
             rotate_left
             ·rintro w' ⟨s0, s1, s2, s3, s4, s5, s6, s7, s8, s9, s10, s11, s12, s13⟩
              go_simp
              with_reducible rfl
             rotate_left
             ·simp only [Act.put, List.setIfInBounds_toArray, List.set_cons_zero, List.set_cons_succ, i64_w, i32_w]
              rfl
             refine take_ (i := 2) (N := some 69) (v := ?_) (a' := ?_) #[true, true, true, true, false, false, false, false, false] rfl rfl (take_ofW HT_.out HW_.out (by kernel_rfl)) (fun _ _ _ h => h) (Or.inl ⟨by rfl, ?_⟩) hHeld ?_ ?_
             rotate_left
             ·rintro w' ⟨s0, s1, s2, s3, s4, s5, s6, s7, s8, s9, s10, s11, s12, s13⟩
              go_simp
              with_reducible rfl
             rotate_left
             ·simp only [Act.put, List.setIfInBounds_toArray, List.set_cons_zero, List.set_cons_succ, i64_w, i32_w]
              rfl
             refine pure_ (i := 4) (N := some 71) (v := ?_) (a' := ?_) #[true, true, true, true, true, false, false, false, false] rfl rfl (any_of HT_.out (by kernel_rfl)) (fun _ _ _ h => h) (Or.inl ⟨by rfl, ?_⟩) ?_ ?_
             rotate_left
             ·intro w'
              go_simp
              with_reducible rfl
             rotate_left
             ·simp only [Act.put, List.setIfInBounds_toArray, List.set_cons_zero, List.set_cons_succ, i64_w, i32_w]
              rfl
             refine take_ (i := 5) (N := some 72) (v := ?_) (a' := ?_) #[true, true, true, true, true, true, false, false, false] rfl rfl (take_ofW HT_.out HW_.out (by kernel_rfl)) (fun _ _ _ h => h) (Or.inl ⟨by rfl, ?_⟩) hHeld ?_ ?_
             rotate_left
             ·rintro w' ⟨s0, s1, s2, s3, s4, s5, s6, s7, s8, s9, s10, s11, s12, s13⟩
              go_simp
              with_reducible rfl
             rotate_left
             ·simp only [Act.put, List.setIfInBounds_toArray, List.set_cons_zero, List.set_cons_succ, i64_w, i32_w]
              rfl
             refine take_ (i := 6) (N := some 73) (v := ?_) (a' := ?_) #[true, true, true, true, true, true, true, false, false] rfl rfl (take_ofW HT_.out HW_.out (by kernel_rfl)) (fun _ _ _ h => h) (Or.inl ⟨by rfl, ?_⟩) hHeld ?_ ?_
             rotate_left
             ·rintro w' ⟨s0, s1, s2, s3, s4, s5, s6, s7, s8, s9, s10, s11, s12, s13⟩
              go_simp
              with_reducible rfl
             rotate_left
             ·simp only [Act.put, List.setIfInBounds_toArray, List.set_cons_zero, List.set_cons_succ, i64_w, i32_w]
              rfl
             refine one_ (i := 7) (N := some 74) #[true, true, true, true, true, true, true, true, false] rfl rfl (one_of HT_.out (by kernel_rfl)) (by decide) (fun K hK => ?_)
             refine Clo.goesF_ (p := 67) rfl Try.func72 (by kernel_rfl) rfl #[.agg #[.int .i64 ((rd_T70 l0_2 x5_1).f0), .int .i64 ((rd_T70 l0_2 x5_1).f1), .int .i64 ((rd_T70 l0_2 x5_1).f2), .int .i64 ((rd_T70 l0_2 x5_1).f3)], .agg #[.int .i64 ((rd_T41 l0_1 x62_2).f0), .int .i64 ((rd_T41 l0_1 x62_2).f1), .int .i64 ((rd_T41 l0_1 x62_2).f2)]] (by rfl) rfl rfl (by (try simp only [List.map_toArray, List.map_cons, List.map_nil]); first | done | rfl | (simp only [List.length_drop, List.length_take]; rfl)) ?_
             with_reducible refine (impl_Desk_next_1.calls ((rd_T70 l0_2 x5_1).f0) ((rd_T70 l0_2 x5_1).f1) ((rd_T70 l0_2 x5_1).f2) ((rd_T70 l0_2 x5_1).f3) ((rd_T41 l0_1 x62_2).f0) ((rd_T41 l0_1 x62_2).f1) ((rd_T41 l0_1 x62_2).f2) false _ A96.out).mono ?_
             rintro e w187 ⟨rfl, hb⟩
             refine ⟨_, rfl, ?_⟩
             have n0_ := Aside0.mk (blkStep (g := gb106) hb)
             have n1_ := Aside0.mk (blkStep (g := gb107) hb)
             have n2_ := Aside0.mk (blkStep (g := gb114) hb)
             have n3_ := Aside0.mk (below_step belowNow hb)
             clear BK106
             clear BK107
             clear BK114
             clear HB
             have BK106 := n0_
             have BK107 := n1_
             have BK114 := n2_
             have HB := n3_
             clear n0_ n1_ n2_ n3_
             (try clear hb)
             (try clear hb2)
             (try clear hk)
             (try clear hi)
             refine hK.out _ _ ⟨(blk_cell BK107.out 0).trans rfl, trivial, trivial, (blk_cell BK106.out 0).trans rfl, (blk_cell BK106.out 1).trans rfl, (blk_cell BK106.out 2).trans rfl, (blk_cell BK106.out 3).trans rfl, (blk_cell BK114.out 0).trans rfl, (blk_cell BK114.out 1).trans rfl, (blk_cell BK114.out 2).trans rfl, ((HB.out.cell (World.block_lt_of_cell? w _ hw115_0)).trans hw115_0), ((HB.out.cell (World.block_lt_of_cell? w _ hw115_1)).trans hw115_1), ((HB.out.cell (World.block_lt_of_cell? w _ hw115_2)).trans hw115_2), ((HB.out.cell (World.block_lt_of_cell? w _ hw115_3)).trans hw115_3)⟩ (fun hHeld => ?_)
             clear hK K
             refine norm_ (a' := ?_) ?_ ?_
             rotate_left
             ·show Act.put _ (some 74) _ = _
              simp only [Act.put, List.setIfInBounds_toArray, List.set_cons_zero, List.set_cons_succ, i64_w, i32_w]
              rfl
             refine pure_ (i := 8) (N := some 75) (v := ?_) (a' := ?_) #[true, true, true, true, true, true, true, true, true] rfl rfl (any_of HT_.out (by kernel_rfl)) (fun _ _ _ h => h) (Or.inl ⟨by rfl, ?_⟩) ?_ ?_
             rotate_left
             ·intro w'
              go_simp
              with_reducible rfl
             rotate_left
             ·simp only [Act.put, List.setIfInBounds_toArray, List.set_cons_zero, List.set_cons_succ, i64_w, i32_w]
              rfl
             refine done_ (done_of HT_.out (by kernel_rfl)) ?_
             try go_wp2
             go_roundg k2
             case measure => have := HK1.out; have := HK2.out; omega
             case rel => exact ⟨(x10_2), (wrap64 (x62_2 + 1)), (by first | rfl | (simp; done) | (simp [*]; done)), (by first | rfl | (simp; done) | (simp [*]; done)), H', ⟨by have := HK1.out; have := HK2.out; omega⟩, ⟨by (with_reducible repeat (first | refine blk_drewN ?_ _ | refine blk_drew ?_ | refine blk_alloc ?_ _)); exact BK106.out⟩, ⟨by (with_reducible repeat (first | refine blk_drewN ?_ _ | refine blk_drew ?_ | refine blk_alloc ?_ _)); exact BK107.out⟩, ⟨belowNow⟩⟩
           ·rw [if_neg c95] at H
            exact absurd H (by simp)
          ·rw [if_neg c94] at H
           exact absurd H (by simp)
         ·rw [if_neg c93] at H
          exact absurd H (by simp)
        ·rw [if_neg c92] at H
         exact absurd H (by simp)
       ·rw [if_neg c91] at H
        have c91b0 : decide (x62_2 < (l0_1.length : Int)) = false := decide_eq_false c91
        clear c91
        simp only [Option.some.injEq, Prod.mk.injEq] at H
        obtain ⟨rfl, rfl, rfl⟩ := H
        go_wp2
        go_ret3
        exact ⟨by first | rfl | (simp [errW_none, errW_some] <;> rfl) | (simp [*, errW_none, errW_some] <;> rfl), belowNow⟩

end Go.Proofs.Ytllgjohkkahfgaa.PFnTurns8
