-- laid by a program of this session (wip/lay/lay.py); Lean checks it
import Derived.Test.YtodehmbgcncnhaaPFnLongerx0
import Derived.Test.YtodehmbgcncnhaaPFnLongerx3
namespace Go.Proofs.Ytodehmbgcncnhaa.PFnLonger
open Go.RowKit Go.Proofs.YtodehmbgcncnhaaW.PrintWords Go.Proofs.YtodehmbgcncnhaaW.PrintLast Go.Proofs.YtodehmbgcncnhaaW.PrintMore
attribute [local go_sem] max2_int min2_int max_two min_two max_three min_three max_four min_four   -- for this text's walks alone
set_option linter.unusedVariables false
set_option linter.unusedSimpArgs false

/-! ### spec_Rate: function 22 -/
mutual
def spec_Rate.j0 : Nat → List (S60) → Int → Int → Int → Int → Bool → Option (Int × Int × Bool)
  | 0, _, _, _, _, _, _ => none
  | k + 1, x0, x1, x2, x3, x10, x28 => if x28 = true then (some (0, 0, false)) else (if 0 ≤ x10 then (if x10 < (x0.length : Int) then (spec_Rate.l0 k x0 x1 x3 x2 0 ((rd_T60 x0 x10).f4)) else (none)) else (none))
def spec_Rate.l0 : Nat → List (S60) → Int → Int → Int → Int → Int → Option (Int × Int × Bool)
  | 0, _, _, _, _, _, _ => none
  | k + 1, x0, x1, x3, x13, x130000, x130001 => if x13 < x3 then ((spec_TariffAt.f k x0 x1 x13).bind fun bt130 => (if 0 ≤ bt130.1 then (if bt130.1 < (x0.length : Int) then (spec_Rate.l0 k x0 x1 x3 (wrap64 (x13 + ((rd_T60 x0 bt130.1).f2))) (wrap64 (x130000 + 1)) (wrap64 (x130001 + ((rd_T60 x0 bt130.1).f3)))) else (none)) else (none))) else (some (x130000, x130001, true))
end
def spec_Rate.f (k : Nat) (l0 : List (S60)) (a1 : Int) (a2 : Int) (a3 : Int) : Option (Int × Int × Bool) := (spec_TariffAt.f k l0 a1 a2).bind fun bt125 => (if bt125.2 = true then ((spec_l9Ticks.f a2 a3).bind fun t127 => (spec_Rate.j0 k l0 a1 a2 a3 bt125.1 (!t127))) else (spec_Rate.j0 k l0 a1 a2 a3 bt125.1 true))
theorem spec_Rate.mono_l : ∀ k, (∀ y0 y1 y2 y3 y4 y5, LeO (spec_Rate.j0 k y0 y1 y2 y3 y4 y5) (spec_Rate.j0 (k + 1) y0 y1 y2 y3 y4 y5)) ∧ (∀ y0 y1 y2 y3 y4 y5, LeO (spec_Rate.l0 k y0 y1 y2 y3 y4 y5) (spec_Rate.l0 (k + 1) y0 y1 y2 y3 y4 y5))
  | 0 => ⟨fun _ _ _ _ _ _ r h => by simp [spec_Rate.j0] at h, fun _ _ _ _ _ _ r h => by simp [spec_Rate.l0] at h⟩
  | k + 1 => by
    obtain ⟨ih0, ih1⟩ := spec_Rate.mono_l k
    refine ⟨?_, ?_⟩
    · intro y0 y1 y2 y3 y4 y5
      unfold spec_Rate.j0
      repeat' first
      | (with_reducible exact ih0 _ _ _ _ _ _)
      | (with_reducible exact ih1 _ _ _ _ _ _)
      | (with_reducible exact spec_TariffAt.mono _ _ _ _)
      | (with_reducible exact LeO.refl _)
      | (with_reducible exact LeO.none _)
      | (with_reducible refine LeO.ite ?_ ?_)
      | (with_reducible refine LeO.bind ?_ (fun _ => ?_))
      | exact ih0 _ _ _ _ _ _
      | exact ih1 _ _ _ _ _ _
      | exact spec_TariffAt.mono _ _ _ _
      | exact LeO.none _
      | refine LeO.ite ?_ ?_
      | refine LeO.bind ?_ (fun _ => ?_)
    · intro y0 y1 y2 y3 y4 y5
      unfold spec_Rate.l0
      repeat' first
      | (with_reducible exact ih0 _ _ _ _ _ _)
      | (with_reducible exact ih1 _ _ _ _ _ _)
      | (with_reducible exact spec_TariffAt.mono _ _ _ _)
      | (with_reducible exact LeO.refl _)
      | (with_reducible exact LeO.none _)
      | (with_reducible refine LeO.ite ?_ ?_)
      | (with_reducible refine LeO.bind ?_ (fun _ => ?_))
      | exact ih0 _ _ _ _ _ _
      | exact ih1 _ _ _ _ _ _
      | exact spec_TariffAt.mono _ _ _ _
      | exact LeO.none _
      | refine LeO.ite ?_ ?_
      | refine LeO.bind ?_ (fun _ => ?_)
theorem spec_Rate.mono : ∀ a0 a1 a2 a3 k, LeO (spec_Rate.f k a0 a1 a2 a3) (spec_Rate.f (k + 1) a0 a1 a2 a3) := by
  intro a0 a1 a2 a3 k
  obtain ⟨ih0, ih1⟩ := spec_Rate.mono_l k
  unfold spec_Rate.f
  repeat' first
      | (with_reducible exact ih0 _ _ _ _ _ _)
      | (with_reducible exact ih1 _ _ _ _ _ _)
      | (with_reducible exact spec_TariffAt.mono _ _ _ _)
      | (with_reducible exact LeO.refl _)
      | (with_reducible exact LeO.none _)
      | (with_reducible refine LeO.ite ?_ ?_)
      | (with_reducible refine LeO.bind ?_ (fun _ => ?_))
      | exact ih0 _ _ _ _ _ _
      | exact ih1 _ _ _ _ _ _
      | exact spec_TariffAt.mono _ _ _ _
      | exact LeO.none _
      | refine LeO.ite ?_ ?_
      | refine LeO.bind ?_ (fun _ => ?_)
def spec_Rate.T10 : Bool × List (List Nat × List Nat) := (true, [([], []), ([0], [0]), ([], []), ([], []), ([2, 3], [2, 3]), ([4], [4]), ([5], [5]), ([1, 6], [1, 6]), ([0, 1, 2, 3, 4, 5, 6, 7], []), ([8, 7, 0, 1, 2, 3, 4, 5, 6, 7], [7, 8])])
def spec_Rate.B10 : List Nat := [0, 1, 0, 0, 12, 28, 60, 127, 255, 511]
theorem spec_Rate.tab10 : rtab .any (opsOf Try.f22 10) = spec_Rate.T10 := by kernel_rfl
theorem spec_Rate.bits10 : waitsOk spec_Rate.T10.2 spec_Rate.B10 = true := by kernel_rfl
set_option maxHeartbeats 8000000 in
set_option maxRecDepth 100000 in
theorem spec_Rate.calls (k : Nat) (A0 : Option Addr) (c0 : Nat) (l0 : List (S60)) (a1 : Int) (a2 : Int) (a3 : Int) (r1 : Int) (r2 : Int) (r3 : Bool) (w : World) (hr0 : Kd.C k60 w A0 l0.length l0) (hc0 : l0.length ≤ c0) (h : spec_Rate.f k l0 a1 a2 a3 = some (r1, r2, r3)) :
    Calls Try.prog 22 #[.slice A0 l0.length c0, .int .i64 a1, .int .i64 a2, .int .i64 a3] w fun e w' => e = .returned (.tuple #[.agg #[.int .i64 r1, .int .i64 r2], .bool r3]) ∧ Below w.heap.size w w' := by
  have hu41 := Try.underlying41
  have HR0 := Aside0.mk hr0
  have HC0 := Aside0.mk hc0
  clear hr0 hc0
  have HB := Aside0.mk (Below.refl w.heap.size w)
  have H : ((spec_TariffAt.f k l0 a1 a2).bind fun bt125 => (if bt125.2 = true then ((spec_l9Ticks.f a2 a3).bind fun t127 => (spec_Rate.j0 k l0 a1 a2 a3 bt125.1 (!t127))) else (spec_Rate.j0 k l0 a1 a2 a3 bt125.1 true))) = some (r1, r2, r3) := h
  clear h
  replace H := Option.bind_eq_some_iff.mp H
  obtain ⟨⟨t125, t126⟩, A50, H⟩ := H
  replace H : (if t126 = true then ((spec_l9Ticks.f a2 a3).bind fun t127 => (spec_Rate.j0 k l0 a1 a2 a3 t125 (!t127))) else (spec_Rate.j0 k l0 a1 a2 a3 t125 true)) = some (r1, r2, r3) := H
  have A5 := Aside0.mk A50
  clear A50
  have HC6 := Aside0.mk H
  clear H
  go_enter Try.func22, Try.ntmps22
  go_upto_region 2 with (first | ((with_reducible refine gate_dst (N := 8) rfl ?_); refine box_event ?hg (N := 8) ?hd (cs := #[.int .i64 0, .int .i64 0]) (t := 41) ?hr ?_; (case hd => rfl); (case hg => rfl); (case hr => first | (go_simp; done) | (go_simp; rfl)); intro gb124 hg w7 hbox hb; have n0_ := Aside0.mk (below_step (by repeat (first | (with_reducible first | exact HB.out | apply below_alloc | apply pw_below_drewN | apply below_drew1) | exact HB.out)) hb); have n1_ := Aside0.mk (hbox); have n2_ := Aside0.mk ((by rw [hg]; exact (below_size (by repeat (first | (with_reducible first | exact HB.out | apply below_alloc | apply pw_below_drewN | apply below_drew1) | exact HB.out))) : w.heap.size ≤ gb124)); have n3_ := Aside0.mk ((by rw [hg]; exact (below_size (by repeat (first | (with_reducible first | exact HB.out | apply below_alloc | apply pw_below_drewN | apply below_drew1) | exact HB.out))) : w.heap.size ≤ gb124)); clear HB; have HB := n0_; have BK124 := n1_; have GW124 := n2_; have GE124 := n3_; clear n0_ n1_ n2_ n3_; clear hb hbox hg) | ((with_reducible refine gate_callee (f := 20) rfl ?_); refine goesL_ (some 18) rfl rfl Try.func20 (by kernel_rfl) rfl #[.slice A0 l0.length c0, .int .i64 a1, .int .i64 a2] rfl (by (try simp only [List.map_toArray, List.map_cons, List.map_nil]); first | done | rfl | (simp only [List.length_drop, List.length_take]; rfl)) ?_; (with_reducible refine (spec_TariffAt.calls k _ _ l0 a1 a2 t125 t126 _ ?side1 ?side2 A5.out).mono ?_); (case side1 => repeat (first | exact (Kd.C_below HR0.out HB.out) | (with_reducible refine Kd.C_alloc ?_ _) | (with_reducible refine Kd.C_drewN ?_ _) | (with_reducible refine Kd.C_drew ?_))); (case side2 => exact HC0.out); rintro e w8 ⟨rfl, hb⟩; refine ⟨_, rfl, ?_⟩; have n0_ := Aside0.mk (blk_below (g := gb124) (o := .cells #[.int .i64 0, .int .i64 0] 41 (0, 0)) (by (with_reducible repeat (first | refine blk_drewN ?_ _ | refine blk_drew ?_ | refine blk_alloc ?_ _)); exact BK124.out) hb); have n1_ := Aside0.mk (below_step (by repeat (first | (with_reducible first | exact HB.out | apply below_alloc | apply pw_below_drewN | apply below_drew1 | refine below_set ?_ GE124.out) | exact HB.out)) hb); clear BK124; clear HB; have BK124 := n0_; have HB := n1_; clear n0_ n1_; (try clear hb); (try clear hb2); (try clear hk); (try clear hi)))
  (try simp only [Act.put, List.setIfInBounds_toArray, List.set_cons_zero, List.set_cons_succ])
  go_cut [28] (fun v28 wc => ∃ (kq : Nat) (x28_5 : Bool), v28 = .bool x28_5 ∧ Aside0 (spec_Rate.j0 kq l0 a1 a2 a3 t125 x28_5 = some (r1, r2, r3)) ∧ Aside0 (kq ≤ k) ∧ Aside0 (wc.heap[gb124]? = some (.cells #[.int .i64 0, .int .i64 0] 41 (0, 0))) ∧ Aside0 (Below w.heap.size w wc))
  case first =>
    have H := HC6.out
    clear HC6
    by_cases c9 : t126 = true
    · subst c9
      have H1 : ((spec_l9Ticks.f a2 a3).bind fun t127 => (spec_Rate.j0 k l0 a1 a2 a3 t125 (!t127))) = some (r1, r2, r3) := by rw [if_pos rfl] at H; exact H
      clear H
      have H := H1
      clear H1
      replace H := Option.bind_eq_some_iff.mp H
      obtain ⟨t127, A100, H⟩ := H
      replace H : (spec_Rate.j0 k l0 a1 a2 a3 t125 (!t127)) = some (r1, r2, r3) := H
      have A10 := Aside0.mk A100
      clear A100
      have H' := Aside0.mk H
      clear H
      go_wp2_with (first | (go_at_call 43; (with_reducible refine (spec_l9Ticks.calls a2 a3 t127 _ A10.out).mono ?_); rintro e w' ⟨rfl, ⟨nd, rfl⟩⟩))
      go_meet
      case rel => exact ⟨_, (!t127), (by first | rfl | (simp; done) | (simp [*]; done)), H', ⟨by first | omega | exact Nat.le_refl _⟩, ⟨by (with_reducible repeat (first | refine blk_drewN ?_ _ | refine blk_drew ?_ | refine blk_alloc ?_ _)); exact BK124.out⟩, ⟨by repeat (first | (with_reducible first | exact HB.out | apply below_alloc | apply pw_below_drewN | apply below_drew1 | refine below_set ?_ GE124.out) | exact HB.out)⟩⟩
    · replace c9 := Bool.eq_false_iff.mpr c9
      subst c9
      have H1 : (spec_Rate.j0 k l0 a1 a2 a3 t125 true) = some (r1, r2, r3) := by rw [if_neg (show ¬ (false = true) by decide)] at H; exact H
      clear H
      have H := H1
      clear H1
      have H' := Aside0.mk H
      clear H
      go_wp2
      go_meet
      case rel => exact ⟨_, (true), (by first | rfl | (simp; done) | (simp [*]; done)), H', ⟨by first | omega | exact Nat.le_refl _⟩, ⟨by (with_reducible repeat (first | refine blk_drewN ?_ _ | refine blk_drew ?_ | refine blk_alloc ?_ _)); exact BK124.out⟩, ⟨by repeat (first | (with_reducible first | exact HB.out | apply below_alloc | apply pw_below_drewN | apply below_drew1 | refine below_set ?_ GE124.out) | exact HB.out)⟩⟩
  case rest =>
    clear HC6
    try clear c2
    try clear p2
    try clear c9
    obtain ⟨kq, x28_5, rfl, HA, HJ5, BK124, HB⟩ := hcut
    cases kq with
    | zero => exact absurd HA.out (by simp [spec_Rate.j0])
    | succ kj5 =>
      have H := HA.out
      clear HA
      simp only [spec_Rate.j0] at H
      by_cases c11 : x28_5 = true
      · subst c11
        have H1 : (some (0, 0, false)) = some (r1, r2, r3) := by rw [if_pos rfl] at H; exact H
        clear H
        have H := H1
        clear H1
        simp only [Option.some.injEq, Prod.mk.injEq] at H
        obtain ⟨rfl, rfl, rfl⟩ := H
        have hcz12_0 : wc.cell? ⟨gb124, 0, none⟩ = some (.int .i64 0) := (blk_cell BK124.out 0).trans rfl
        have hcz12_1 : wc.cell? ⟨gb124, 1, none⟩ = some (.int .i64 0) := (blk_cell BK124.out 1).trans rfl
        have hfz12_0 := blk_frozen BK124.out 0
        have hfz12_1 := blk_frozen BK124.out 1
        go_wp2
        refine bodyPost_ret (results_ct rfl _ _ gb124 41 #[.int .i64 0, .int .i64 0] (0, 0) _ rfl (by (with_reducible repeat (first | refine blk_drewN ?_ _ | refine blk_drew ?_ | refine blk_alloc ?_ _)); refine blk_put (cs := #[.int .i64 0, .int .i64 0]) ?_ 1 _ rfl; (with_reducible repeat (first | refine blk_drewN ?_ _ | refine blk_drew ?_ | refine blk_alloc ?_ _)); refine blk_put (cs := #[.int .i64 0, .int .i64 0]) ?_ 0 _ rfl; (with_reducible repeat (first | refine blk_drewN ?_ _ | refine blk_drew ?_ | refine blk_alloc ?_ _)); exact BK124.out) Try.underlying41 rfl (by kernel_rfl)) rfl ?_
        exact ⟨by first | rfl | (simp [errW_none, errW_some] <;> rfl) | (simp [*, errW_none, errW_some] <;> rfl), by repeat (first | (with_reducible first | exact HB.out | apply below_alloc | apply pw_below_drewN | apply below_drew1 | refine below_set ?_ GE124.out) | exact HB.out)⟩
      · replace c11 := Bool.eq_false_iff.mpr c11
        subst c11
        have H1 : (if 0 ≤ t125 then (if t125 < (l0.length : Int) then (spec_Rate.l0 kj5 l0 a1 a3 a2 0 ((rd_T60 l0 t125).f4)) else (none)) else (none)) = some (r1, r2, r3) := by rw [if_neg (show ¬ (false = true) by decide)] at H; exact H
        clear H
        have H := H1
        clear H1
        by_cases c13 : 0 ≤ t125
        · rw [if_pos c13] at H
          have c13b0 : decide (0 ≤ t125) = true := decide_eq_true c13
          clear c13
          by_cases c14 : t125 < (l0.length : Int)
          · rw [if_pos c14] at H
            have c14b0 : decide (t125 < (l0.length : Int)) = true := decide_eq_true c14
            clear c14
            have H' := Aside0.mk H
            clear H
            have p128 : 0 ≤ (t125 : Int) := of_decide_eq_true (by first | (with_reducible assumption) | assumption)
            have q128 : t125 < (l0.length : Int) := of_decide_eq_true (by first | (with_reducible assumption) | assumption)
            obtain ⟨ad128, e128, hx128_0, hx128_1, hx128_2, hx128_3, hx128_4⟩ := at_T60 HR0.out t125 p128 q128
            cases e128
            replace hx128_0 := (HB.out.cell (World.block_lt_of_cell? w _ hx128_0)).trans hx128_0
            replace hx128_1 := (HB.out.cell (World.block_lt_of_cell? w _ hx128_1)).trans hx128_1
            replace hx128_2 := (HB.out.cell (World.block_lt_of_cell? w _ hx128_2)).trans hx128_2
            replace hx128_3 := (HB.out.cell (World.block_lt_of_cell? w _ hx128_3)).trans hx128_3
            replace hx128_4 := (HB.out.cell (World.block_lt_of_cell? w _ hx128_4)).trans hx128_4
            replace p128 := eq_true p128
            replace q128 := eq_true q128
            go_wp2_with (first | ((with_reducible refine gate_dst (N := 12) rfl ?_); refine box_event ?hg (N := 12) ?hd (cs := #[.int .i64 0, .int .i64 0]) (t := 41) ?hr ?_; (case hd => rfl); (case hg => rfl); (case hr => first | (go_simp; done) | (go_simp; rfl)); intro gb129 hg w15 hbox hb; have n0_ := Aside0.mk (blk_below (g := gb124) (o := .cells #[.int .i64 0, .int .i64 0] 41 (0, 0)) (by (with_reducible repeat (first | refine blk_drewN ?_ _ | refine blk_drew ?_ | refine blk_alloc ?_ _)); exact BK124.out) hb); have n1_ := Aside0.mk (below_step (by repeat (first | (with_reducible first | exact HB.out | apply below_alloc | apply pw_below_drewN | apply below_drew1 | refine below_set ?_ GE124.out) | exact HB.out)) hb); have n2_ := Aside0.mk (hbox); have n3_ := Aside0.mk ((by rw [hg]; exact (below_size (by repeat (first | (with_reducible first | exact HB.out | apply below_alloc | apply pw_below_drewN | apply below_drew1 | refine below_set ?_ GE124.out) | exact HB.out))) : w.heap.size ≤ gb129)); have n4_ := Aside0.mk ((by rw [hg]; exact (below_size (by repeat (first | (with_reducible first | exact HB.out | apply below_alloc | apply pw_below_drewN | apply below_drew1 | refine below_set ?_ GE124.out) | exact HB.out))) : w.heap.size ≤ gb129)); have n5_ := Aside0.mk ((by rw [hg]; exact Nat.ne_of_lt (blk_lt (g := gb124) (o := .cells #[.int .i64 0, .int .i64 0] 41 (0, 0)) (by (with_reducible repeat (first | refine blk_drewN ?_ _ | refine blk_drew ?_ | refine blk_alloc ?_ _)); exact BK124.out)) : gb124 ≠ gb129)); have n6_ := Aside0.mk ((by rw [hg]; exact Nat.ne_of_gt (blk_lt (g := gb124) (o := .cells #[.int .i64 0, .int .i64 0] 41 (0, 0)) (by (with_reducible repeat (first | refine blk_drewN ?_ _ | refine blk_drew ?_ | refine blk_alloc ?_ _)); exact BK124.out)) : gb129 ≠ gb124)); clear BK124; clear HB; have BK124 := n0_; have HB := n1_; have BK129 := n2_; have GW129 := n3_; have GE129 := n4_; have NB124_129 := n5_; have NB129_124 := n6_; clear n0_ n1_ n2_ n3_ n4_ n5_ n6_; clear hb hbox hg; have hnb16 := NB129_124.out; have hnc16 := NB124_129.out; have hcz17_0 : w15.cell? ⟨gb129, 0, none⟩ = some (.int .i64 0) := (blk_cell BK129.out 0).trans rfl; have hcz17_1 : w15.cell? ⟨gb129, 1, none⟩ = some (.int .i64 0) := (blk_cell BK129.out 1).trans rfl; have hfz17_0 := blk_frozen BK129.out 0; have hfz17_1 := blk_frozen BK129.out 1))
            go_loopg [13] kj5 (fun kq v13 w' => ∃ (x13_2 : Int) (x130000_2 : Int) (x130001_2 : Int), v13 = .int .i64 x13_2 ∧ Aside0 (spec_Rate.l0 kq l0 a1 a3 x13_2 x130000_2 x130001_2 = some (r1, r2, r3)) ∧ Aside0 (kq ≤ kj5) ∧ Aside0 (w'.heap[gb124]? = some (.cells #[.int .i64 0, .int .i64 0] 41 (0, 0))) ∧ Aside0 (w'.heap[gb129]? = some (.cells #[.int .i64 x130000_2, .int .i64 x130001_2] 41 (0, 0))) ∧ Aside0 (Below w.heap.size w w'))
            case atStart => exact ⟨(a2), (0), ((rd_T60 l0 t125).f4), (by first | rfl | (simp; done) | (simp [*]; done)), H', ⟨Nat.le_refl _⟩, ⟨by (with_reducible repeat (first | refine blk_drewN ?_ _ | refine blk_drew ?_ | refine blk_alloc ?_ _)); refine blk_far ?_ NB124_129.out _; (with_reducible repeat (first | refine blk_drewN ?_ _ | refine blk_drew ?_ | refine blk_alloc ?_ _)); refine blk_far ?_ NB124_129.out _; (with_reducible repeat (first | refine blk_drewN ?_ _ | refine blk_drew ?_ | refine blk_alloc ?_ _)); exact BK124.out⟩, ⟨by (with_reducible repeat (first | refine blk_drewN ?_ _ | refine blk_drew ?_ | refine blk_alloc ?_ _)); refine blk_put (cs := #[.int .i64 0, .int .i64 0]) ?_ 1 _ rfl; (with_reducible repeat (first | refine blk_drewN ?_ _ | refine blk_drew ?_ | refine blk_alloc ?_ _)); refine blk_put (cs := #[.int .i64 0, .int .i64 0]) ?_ 0 _ rfl; (with_reducible repeat (first | refine blk_drewN ?_ _ | refine blk_drew ?_ | refine blk_alloc ?_ _)); exact BK129.out⟩, ⟨by repeat (first | (with_reducible first | exact HB.out | apply below_alloc | apply pw_below_drewN | apply below_drew1 | refine below_set ?_ GE124.out | refine below_set ?_ GE129.out) | exact HB.out)⟩⟩
            case round =>
              clear H'
              try clear c1
              try clear p1
              try clear q1
              try clear hx1
              try clear c2
              try clear p2
              try clear c9
              try clear c11
              try clear p12
              try clear q12
              try clear hx12
              try clear c13
              try clear c13b0
              try clear c14
              try clear c14b0
              try clear c16
              try clear hcz12_0
              try clear hcz12_1
              try clear hcz17_0
              try clear hcz17_1
              try clear hfz12_0
              try clear hfz12_1
              try clear hfz17_0
              try clear hfz17_1
              try clear hx128_0
              try clear hx128_1
              try clear hx128_2
              try clear hx128_3
              try clear hx128_4
              try clear p128
              try clear p2
              try clear q128
              obtain ⟨x13_2, x130000_2, x130001_2, rfl, HA, HK2, BK124, BK129, HB⟩ := hrel
              cases gk with
              | zero => exact absurd HA.out (by simp [spec_Rate.l0])
              | succ k2 =>
                have H := HA.out
                clear HA
                simp only [spec_Rate.l0] at H
                by_cases c18 : x13_2 < a3
                · rw [if_pos c18] at H
                  have c18b0 : decide (x13_2 < a3) = true := decide_eq_true c18
                  clear c18
                  replace H := Option.bind_eq_some_iff.mp H
                  obtain ⟨⟨t130, t131⟩, A190, H⟩ := H
                  replace H : (if 0 ≤ t130 then (if t130 < (l0.length : Int) then (spec_Rate.l0 k2 l0 a1 a3 (wrap64 (x13_2 + ((rd_T60 l0 t130).f2))) (wrap64 (x130000_2 + 1)) (wrap64 (x130001_2 + ((rd_T60 l0 t130).f3)))) else (none)) else (none)) = some (r1, r2, r3) := H
                  have A19 := Aside0.mk A190
                  clear A190
                  by_cases c20 : 0 ≤ t130
                  · rw [if_pos c20] at H
                    have c20b0 : decide (0 ≤ t130) = true := decide_eq_true c20
                    clear c20
                    by_cases c21 : t130 < (l0.length : Int)
                    · rw [if_pos c21] at H
                      have c21b0 : decide (t130 < (l0.length : Int)) = true := decide_eq_true c21
                      clear c21
                      have H' := Aside0.mk H
                      clear H
                      try go_wp2_with (first | ((with_reducible refine gate_callee (f := 20) rfl ?_); refine goesL_ (some 51) rfl rfl Try.func20 (by kernel_rfl) rfl #[.slice (some ad128) l0.length c0, .int .i64 a1, .int .i64 x13_2] rfl (by (try simp only [List.map_toArray, List.map_cons, List.map_nil]); first | done | rfl | (simp only [List.length_drop, List.length_take]; rfl)) ?_; (with_reducible refine (spec_TariffAt.calls k2 _ _ l0 a1 x13_2 t130 t131 _ ?side1 ?side2 A19.out).mono ?_); (case side1 => repeat (first | exact (Kd.C_below HR0.out HB.out) | (with_reducible refine Kd.C_alloc ?_ _) | (with_reducible refine Kd.C_drewN ?_ _) | (with_reducible refine Kd.C_drew ?_))); (case side2 => exact HC0.out); rintro e w22 ⟨rfl, hb⟩; refine ⟨_, rfl, ?_⟩; have n0_ := Aside0.mk (blk_below (g := gb124) (o := .cells #[.int .i64 0, .int .i64 0] 41 (0, 0)) (by (with_reducible repeat (first | refine blk_drewN ?_ _ | refine blk_drew ?_ | refine blk_alloc ?_ _)); exact BK124.out) hb); have n1_ := Aside0.mk (blk_below (g := gb129) (o := .cells #[.int .i64 x130000_2, .int .i64 x130001_2] 41 (0, 0)) (by (with_reducible repeat (first | refine blk_drewN ?_ _ | refine blk_drew ?_ | refine blk_alloc ?_ _)); exact BK129.out) hb); have n2_ := Aside0.mk (below_step (by repeat (first | (with_reducible first | exact HB.out | apply below_alloc | apply pw_below_drewN | apply below_drew1 | refine below_set ?_ GE124.out | refine below_set ?_ GE129.out) | exact HB.out)) hb); clear BK124; clear BK129; clear HB; have BK124 := n0_; have BK129 := n1_; have HB := n2_; clear n0_ n1_ n2_; (try clear hb); (try clear hb2); (try clear hk); (try clear hi); have hnb23 := NB129_124.out; have hnc23 := NB124_129.out; have hcz24_0 : w22.cell? ⟨gb129, 0, none⟩ = some (.int .i64 x130000_2) := (blk_cell BK129.out 0).trans rfl; have hcz24_1 : w22.cell? ⟨gb129, 1, none⟩ = some (.int .i64 x130001_2) := (blk_cell BK129.out 1).trans rfl; have hfz24_0 := blk_frozen BK129.out 0; have hfz24_1 := blk_frozen BK129.out 1))
                      have n0_ : Aside0 ((w22.setCell ⟨gb129, 0, none⟩ (.int .i64 (wrap64 (x130000_2 + 1)))).heap[gb124]? = some (.cells #[.int .i64 0, .int .i64 0] 41 (0, 0))) := ⟨by (with_reducible repeat (first | refine blk_drewN ?_ _ | refine blk_drew ?_ | refine blk_alloc ?_ _)); refine blk_far ?_ NB124_129.out _; (with_reducible repeat (first | refine blk_drewN ?_ _ | refine blk_drew ?_ | refine blk_alloc ?_ _)); exact BK124.out⟩
                      have n1_ : Aside0 ((w22.setCell ⟨gb129, 0, none⟩ (.int .i64 (wrap64 (x130000_2 + 1)))).heap[gb129]? = some (.cells #[.int .i64 (wrap64 (x130000_2 + 1)), .int .i64 x130001_2] 41 (0, 0))) := ⟨by (with_reducible repeat (first | refine blk_drewN ?_ _ | refine blk_drew ?_ | refine blk_alloc ?_ _)); refine blk_put (cs := #[.int .i64 x130000_2, .int .i64 x130001_2]) ?_ 0 _ rfl; (with_reducible repeat (first | refine blk_drewN ?_ _ | refine blk_drew ?_ | refine blk_alloc ?_ _)); exact BK129.out⟩
                      have n2_ : Aside0 (Below w.heap.size w (w22.setCell ⟨gb129, 0, none⟩ (.int .i64 (wrap64 (x130000_2 + 1))))) := ⟨by repeat (first | (with_reducible first | exact HB.out | apply below_alloc | apply pw_below_drewN | apply below_drew1 | refine below_set ?_ GE124.out | refine below_set ?_ GE129.out) | exact HB.out)⟩
                      (try clear BK124)
                      (try clear BK129)
                      (try clear HB)
                      generalize (w22.setCell ⟨gb129, 0, none⟩ (.int .i64 (wrap64 (x130000_2 + 1)))) = w25 at n0_ n1_ n2_ ⊢
                      have BK124 := n0_
                      have BK129 := n1_
                      have HB := n2_
                      clear n0_ n1_ n2_
                      have n0_ := Aside0.mk (blk_drew BK124.out)
                      have n1_ := Aside0.mk (blk_drew BK129.out)
                      have n2_ := Aside0.mk (below_drew1 HB.out)
                      clear BK124
                      clear BK129
                      clear HB
                      have BK124 := n0_
                      have BK129 := n1_
                      have HB := n2_
                      clear n0_ n1_ n2_
                      have p132 : 0 ≤ (t130 : Int) := of_decide_eq_true (by first | (with_reducible assumption) | assumption)
                      have q132 : t130 < (l0.length : Int) := of_decide_eq_true (by first | (with_reducible assumption) | assumption)
                      obtain ⟨ad132, e132, hx132_0, hx132_1, hx132_2, hx132_3, hx132_4⟩ := at_T60 HR0.out t130 p132 q132
                      have hw132_4 := hx132_4
                      have hw132_3 := hx132_3
                      have hw132_2 := hx132_2
                      have hw132_1 := hx132_1
                      have hw132_0 := hx132_0
                      obtain rfl : ad128 = ad132 := (by injection e132)
                      replace hx132_0 := (HB.out.cell (World.block_lt_of_cell? w _ hx132_0)).trans hx132_0
                      replace hx132_1 := (HB.out.cell (World.block_lt_of_cell? w _ hx132_1)).trans hx132_1
                      replace hx132_2 := (HB.out.cell (World.block_lt_of_cell? w _ hx132_2)).trans hx132_2
                      replace hx132_3 := (HB.out.cell (World.block_lt_of_cell? w _ hx132_3)).trans hx132_3
                      replace hx132_4 := (HB.out.cell (World.block_lt_of_cell? w _ hx132_4)).trans hx132_4
                      replace p132 := eq_true p132
                      replace q132 := eq_true q132
                      refine start_ (n := 10) (S := fun w' => w'.cell? ⟨gb129, 0, none⟩ = some (.int .i64 (wrap64 (x130000_2 + 1))) ∧ w'.cell? ⟨gb129, 1, none⟩ = some (.int .i64 x130001_2) ∧ w'.cell? (ad128.add ((t130).toNat * 5)) = some (.int .i64 ((rd_T60 l0 t130).f0)) ∧ w'.cell? ⟨(ad128.add ((t130).toNat * 5)).block, (ad128.add ((t130).toNat * 5)).off + 1, none⟩ = some (.int .i64 ((rd_T60 l0 t130).f1)) ∧ w'.cell? ⟨(ad128.add ((t130).toNat * 5)).block, (ad128.add ((t130).toNat * 5)).off + 2, none⟩ = some (.int .i64 ((rd_T60 l0 t130).f2)) ∧ w'.cell? ⟨(ad128.add ((t130).toNat * 5)).block, (ad128.add ((t130).toNat * 5)).off + 3, none⟩ = some (.int .i64 ((rd_T60 l0 t130).f3)) ∧ w'.cell? ⟨(ad128.add ((t130).toNat * 5)).block, (ad128.add ((t130).toNat * 5)).off + 4, none⟩ = some (.int .i64 ((rd_T60 l0 t130).f4))) (ds := [9]) #[false, false, false, false, false, false, false, false, false, false] (by kernel_rfl) rfl rfl ⟨(blk_cell BK129.out 0).trans rfl, (blk_cell BK129.out 1).trans rfl, ((HB.out.cell (World.block_lt_of_cell? w _ hw132_0)).trans hw132_0), ((HB.out.cell (World.block_lt_of_cell? w _ hw132_1)).trans hw132_1), ((HB.out.cell (World.block_lt_of_cell? w _ hw132_2)).trans hw132_2), ((HB.out.cell (World.block_lt_of_cell? w _ hw132_3)).trans hw132_3), ((HB.out.cell (World.block_lt_of_cell? w _ hw132_4)).trans hw132_4)⟩ (fun hHeld => ?_); refine with_tabW spec_Rate.tab10 spec_Rate.bits10 (fun HT_ HW_ => ?_)
                      generalize w25.drew = w26 at BK124 BK129 HB hx132_0 hx132_1 hx132_2 hx132_3 hx132_4 hHeld ⊢
                      refine pure_ (i := 0) (N := some 58) (v := ?_) (a' := ?_) #[true, false, false, false, false, false, false, false, false, false] rfl rfl (any_of HT_.out (by kernel_rfl)) (fun _ _ _ h => h) (Or.inl ⟨by rfl, ?_⟩) ?_ ?_
                      rotate_left
                      · intro w'
                        go_simp
                        with_reducible rfl
                      rotate_left
                      · simp only [Act.put, List.setIfInBounds_toArray, List.set_cons_zero, List.set_cons_succ, i64_w, i32_w]
                        rfl
                      refine pure_ (i := 2) (N := some 60) (v := ?_) (a' := ?_) #[true, false, true, false, false, false, false, false, false, false] rfl rfl (any_of HT_.out (by kernel_rfl)) (fun _ _ _ h => h) (Or.inl ⟨by rfl, ?_⟩) ?_ ?_
                      rotate_left
                      · intro w'
                        go_simp
                        with_reducible rfl
                      rotate_left
                      · simp only [Act.put, List.setIfInBounds_toArray, List.set_cons_zero, List.set_cons_succ, i64_w, i32_w]
                        rfl
                      refine pure_ (i := 3) (N := some 61) (v := ?_) (a' := ?_) #[true, false, true, true, false, false, false, false, false, false] rfl rfl (any_of HT_.out (by kernel_rfl)) (fun _ _ _ h => h) (Or.inl ⟨by rfl, ?_⟩) ?_ ?_
                      rotate_left
                      · intro w'
                        go_simp
                        with_reducible rfl
                      rotate_left
                      · simp only [Act.put, List.setIfInBounds_toArray, List.set_cons_zero, List.set_cons_succ, i64_w, i32_w]
                        rfl
                      refine pure_ (i := 4) (N := some 62) (v := ?_) (a' := ?_) #[true, false, true, true, true, false, false, false, false, false] rfl rfl (any_of HT_.out (by kernel_rfl)) (fun _ _ _ h => h) (Or.inl ⟨by rfl, ?_⟩) ?_ ?_
                      rotate_left
                      · intro w'
                        go_simp
                        with_reducible rfl
                      rotate_left
                      · simp only [Act.put, List.setIfInBounds_toArray, List.set_cons_zero, List.set_cons_succ, i64_w, i32_w]
                        rfl
                      refine pure_ (i := 5) (N := some 63) (v := ?_) (a' := ?_) #[true, false, true, true, true, true, false, false, false, false] rfl rfl (any_of HT_.out (by kernel_rfl)) (fun _ _ _ h => h) (Or.inl ⟨by rfl, ?_⟩) ?_ ?_
                      rotate_left
                      · intro w'
                        go_simp
                        with_reducible rfl
                      rotate_left
                      · simp only [Act.put, List.setIfInBounds_toArray, List.set_cons_zero, List.set_cons_succ, i64_w, i32_w]
                        rfl
                      refine take_ (i := 1) (N := some 59) (v := ?_) (a' := ?_) #[true, true, true, true, true, true, false, false, false, false] rfl rfl (take_ofW HT_.out HW_.out (by kernel_rfl)) (fun _ _ _ h => h) (Or.inl ⟨by rfl, ?_⟩) hHeld ?_ ?_
                      rotate_left
                      · rintro w' ⟨s0, s1, s2, s3, s4, s5, s6⟩
                        go_simp
                        with_reducible rfl
                      rotate_left
                      · simp only [Act.put, List.setIfInBounds_toArray, List.set_cons_zero, List.set_cons_succ, i64_w, i32_w]
                        rfl
                      refine take_ (i := 6) (N := some 64) (v := ?_) (a' := ?_) #[true, true, true, true, true, true, true, false, false, false] rfl rfl (take_ofW HT_.out HW_.out (by kernel_rfl)) (fun _ _ _ h => h) (Or.inl ⟨by rfl, ?_⟩) hHeld ?_ ?_
                      rotate_left
                      · rintro w' ⟨s0, s1, s2, s3, s4, s5, s6⟩
                        go_simp
                        with_reducible rfl
                      rotate_left
                      · simp only [Act.put, List.setIfInBounds_toArray, List.set_cons_zero, List.set_cons_succ, i64_w, i32_w]
                        rfl
                      refine pure_ (i := 7) (N := some 65) (v := ?_) (a' := ?_) #[true, true, true, true, true, true, true, true, false, false] rfl rfl (any_of HT_.out (by kernel_rfl)) (fun _ _ _ h => h) (Or.inl ⟨by rfl, ?_⟩) ?_ ?_
                      rotate_left
                      · intro w'
                        go_simp
                        with_reducible rfl
                      rotate_left
                      · simp only [Act.put, List.setIfInBounds_toArray, List.set_cons_zero, List.set_cons_succ, i64_w, i32_w]
                        rfl
                      refine pure_ (i := 8) (N := some 66) (v := ?_) (a' := ?_) #[true, true, true, true, true, true, true, true, true, false] rfl rfl (any_of HT_.out (by kernel_rfl)) (fun _ _ _ h => h) (Or.inl ⟨by rfl, ?_⟩) ?_ ?_
                      rotate_left
                      · intro w'
                        go_simp
                        with_reducible rfl
                      rotate_left
                      · simp only [Act.put, List.setIfInBounds_toArray, List.set_cons_zero, List.set_cons_succ, i64_w, i32_w]
                        rfl
                      refine last_ (i := 9) (N := none) #[true, true, true, true, true, true, true, true, true, true] rfl rfl (one_of HT_.out (by kernel_rfl)) (by decide) (fun K hK => ?_)
                      have hs27 : w26.cell? ⟨gb129, 1, none⟩ = some (.int .i64 x130001_2) := (blk_cell BK129.out 1).trans rfl
                      have hfs27 := blk_frozen BK129.out 1
                      have hns27_0 := NB124_129.out
                      have hms27_0 := NB129_124.out
                      refine skip_ (w1 := ?_) (by rfl) rfl ?_ ?_
                      rotate_left
                      · go_simp
                        rfl
                      refine hK.out _ _ ?_
                      clear hK K
                      refine done_ (done_of HT_.out (by kernel_rfl)) ?_
                      have p133 : 0 ≤ (t130 : Int) := of_decide_eq_true (by first | (with_reducible assumption) | assumption)
                      have q133 : t130 < (l0.length : Int) := of_decide_eq_true (by first | (with_reducible assumption) | assumption)
                      obtain ⟨ad133, e133, hx133_0, hx133_1, hx133_2, hx133_3, hx133_4⟩ := at_T60 HR0.out t130 p133 q133
                      obtain rfl : ad128 = ad133 := (by injection e133)
                      have hn133_0 : ad128.block ≠ gb129 := Nat.ne_of_lt (Nat.lt_of_lt_of_le (by have := World.block_lt_of_cell? _ _ hx133_0; first | rwa [add_block] at this | exact this) GW129.out)
                      replace hx133_0 := (HB.out.cell (World.block_lt_of_cell? w _ hx133_0)).trans hx133_0
                      replace hx133_1 := (HB.out.cell (World.block_lt_of_cell? w _ hx133_1)).trans hx133_1
                      replace hx133_2 := (HB.out.cell (World.block_lt_of_cell? w _ hx133_2)).trans hx133_2
                      replace hx133_3 := (HB.out.cell (World.block_lt_of_cell? w _ hx133_3)).trans hx133_3
                      replace hx133_4 := (HB.out.cell (World.block_lt_of_cell? w _ hx133_4)).trans hx133_4
                      replace hx133_0 := (cell_far (p := ⟨gb129, 1, none⟩) (by first | (rw [add_block]; exact hn133_0) | (show (Addr.add _ _).block ≠ _; rw [add_block]; exact hn133_0) | exact hn133_0) (.int .i64 (wrap64 (x130001_2 + ((rd_T60 l0 t130).f3))))).trans hx133_0
                      replace hx133_1 := (cell_far (p := ⟨gb129, 1, none⟩) (by first | (rw [add_block]; exact hn133_0) | (show (Addr.add _ _).block ≠ _; rw [add_block]; exact hn133_0) | exact hn133_0) (.int .i64 (wrap64 (x130001_2 + ((rd_T60 l0 t130).f3))))).trans hx133_1
                      replace hx133_2 := (cell_far (p := ⟨gb129, 1, none⟩) (by first | (rw [add_block]; exact hn133_0) | (show (Addr.add _ _).block ≠ _; rw [add_block]; exact hn133_0) | exact hn133_0) (.int .i64 (wrap64 (x130001_2 + ((rd_T60 l0 t130).f3))))).trans hx133_2
                      replace hx133_3 := (cell_far (p := ⟨gb129, 1, none⟩) (by first | (rw [add_block]; exact hn133_0) | (show (Addr.add _ _).block ≠ _; rw [add_block]; exact hn133_0) | exact hn133_0) (.int .i64 (wrap64 (x130001_2 + ((rd_T60 l0 t130).f3))))).trans hx133_3
                      replace hx133_4 := (cell_far (p := ⟨gb129, 1, none⟩) (by first | (rw [add_block]; exact hn133_0) | (show (Addr.add _ _).block ≠ _; rw [add_block]; exact hn133_0) | exact hn133_0) (.int .i64 (wrap64 (x130001_2 + ((rd_T60 l0 t130).f3))))).trans hx133_4
                      clear hn133_0
                      replace p133 := eq_true p133
                      replace q133 := eq_true q133
                      try go_wp2
                      go_roundg k2
                      case measure => have := HJ5.out; have := HK2.out; omega
                      case rel => exact ⟨(wrap64 (x13_2 + ((rd_T60 l0 t130).f2))), (wrap64 (x130000_2 + 1)), (wrap64 (x130001_2 + ((rd_T60 l0 t130).f3))), (by first | rfl | (simp; done) | (simp [*]; done)), H', ⟨by have := HJ5.out; have := HK2.out; omega⟩, ⟨by (with_reducible repeat (first | refine blk_drewN ?_ _ | refine blk_drew ?_ | refine blk_alloc ?_ _)); refine blk_far ?_ NB124_129.out _; (with_reducible repeat (first | refine blk_drewN ?_ _ | refine blk_drew ?_ | refine blk_alloc ?_ _)); exact BK124.out⟩, ⟨by (with_reducible repeat (first | refine blk_drewN ?_ _ | refine blk_drew ?_ | refine blk_alloc ?_ _)); refine blk_put (cs := #[.int .i64 (wrap64 (x130000_2 + 1)), .int .i64 x130001_2]) ?_ 1 _ rfl; (with_reducible repeat (first | refine blk_drewN ?_ _ | refine blk_drew ?_ | refine blk_alloc ?_ _)); exact BK129.out⟩, ⟨by repeat (first | (with_reducible first | exact HB.out | apply below_alloc | apply pw_below_drewN | apply below_drew1 | refine below_set ?_ GE124.out | refine below_set ?_ GE129.out) | exact HB.out)⟩⟩
                    · rw [if_neg c21] at H
                      exact absurd H (by simp)
                  · rw [if_neg c20] at H
                    exact absurd H (by simp)
                · rw [if_neg c18] at H
                  have c18b0 : decide (x13_2 < a3) = false := decide_eq_false c18
                  clear c18
                  simp only [Option.some.injEq, Prod.mk.injEq] at H
                  obtain ⟨rfl, rfl, rfl⟩ := H
                  have hnb28 := NB129_124.out
                  have hnc28 := NB124_129.out
                  have hcz29_0 : wr.cell? ⟨gb129, 0, none⟩ = some (.int .i64 x130000_2) := (blk_cell BK129.out 0).trans rfl
                  have hcz29_1 : wr.cell? ⟨gb129, 1, none⟩ = some (.int .i64 x130001_2) := (blk_cell BK129.out 1).trans rfl
                  have hfz29_0 := blk_frozen BK129.out 0
                  have hfz29_1 := blk_frozen BK129.out 1
                  have hcz30_0 : wr.cell? ⟨gb124, 0, none⟩ = some (.int .i64 0) := (blk_cell BK124.out 0).trans rfl
                  have hcz30_1 : wr.cell? ⟨gb124, 1, none⟩ = some (.int .i64 0) := (blk_cell BK124.out 1).trans rfl
                  have hfz30_0 := blk_frozen BK124.out 0
                  have hfz30_1 := blk_frozen BK124.out 1
                  go_wp2
                  refine bodyPost_ret (results_ct rfl _ _ gb124 41 #[.int .i64 x130000_2, .int .i64 x130001_2] (0, 0) _ rfl (by (with_reducible repeat (first | refine blk_drewN ?_ _ | refine blk_drew ?_ | refine blk_alloc ?_ _)); refine blk_put (cs := #[.int .i64 x130000_2, .int .i64 0]) ?_ 1 _ rfl; (with_reducible repeat (first | refine blk_drewN ?_ _ | refine blk_drew ?_ | refine blk_alloc ?_ _)); refine blk_put (cs := #[.int .i64 0, .int .i64 0]) ?_ 0 _ rfl; (with_reducible repeat (first | refine blk_drewN ?_ _ | refine blk_drew ?_ | refine blk_alloc ?_ _)); exact BK124.out) Try.underlying41 rfl (by kernel_rfl)) rfl ?_
                  exact ⟨by first | rfl | (simp [errW_none, errW_some] <;> rfl) | (simp [*, errW_none, errW_some] <;> rfl), by repeat (first | (with_reducible first | exact HB.out | apply below_alloc | apply pw_below_drewN | apply below_drew1 | refine below_set ?_ GE124.out | refine below_set ?_ GE129.out) | exact HB.out)⟩
          · rw [if_neg c14] at H
            exact absurd H (by simp)
        · rw [if_neg c13] at H
          exact absurd H (by simp)

/-! ### impl_in: function 38 -/
def impl_in.f (a0 : Int) (a1 : Int) (a2 : Int) : Option (Bool) := if a0 ≥ a1 then (some (decide (a0 ≤ a2))) else (some false)
set_option maxHeartbeats 8000000 in
set_option maxRecDepth 100000 in
theorem impl_in.calls (a0 : Int) (a1 : Int) (a2 : Int) (r : Bool) (w : World) (h : impl_in.f a0 a1 a2 = some r) :
    Calls Try.prog 38 #[.int .i64 a0, .int .i64 a1, .int .i64 a2] w fun e w' => e = .returned (.bool r) ∧ Drawn0 w w' := by
  have H : (if a0 ≥ a1 then (some (decide (a0 ≤ a2))) else (some false)) = some r := h
  clear h
  by_cases c4 : a0 ≥ a1
  · rw [if_pos c4] at H
    have c4b0 : decide (a1 ≤ a0) = true := decide_eq_true c4
    clear c4
    obtain rfl := Option.some.inj H
    go_enter Try.func38, Try.ntmps38
    go_wp2
    go_ret
    exact ⟨by first | rfl | (simp; done) | (simp [*]; done), by repeat (first | exact Drawn0.refl _ | apply Drawn0.step)⟩
  · rw [if_neg c4] at H
    have c4b0 : decide (a1 ≤ a0) = false := decide_eq_false c4
    clear c4
    obtain rfl := Option.some.inj H
    go_enter Try.func38, Try.ntmps38
    go_wp2
    go_ret
    exact ⟨by first | rfl | (simp; done) | (simp [*]; done), by repeat (first | exact Drawn0.refl _ | apply Drawn0.step)⟩

/-! ### impl_TariffsOk: function 18 -/
/-- The keys of the map: a zone and a tick. -/
def keyTZ (x : Int × Int) : Value := .agg #[.int .i64 x.1, .int .i64 x.2]
theorem chkTZ (e : Bool) (a b : Int) (d : Nat) (w : World) : (Instr.checkKey e (d + 2) 68 (.agg #[.int .i64 a, .int .i64 b])).run Try.prog w = .ok () w := by
  rw [Instr.checkKey, Sem.run_bind, run_underlying Try.underlying68]
  simp only [Result.andThen_ok]
  have h3 : ∀ x : Int, (Instr.checkKey e (d + 1) 3 (.int .i64 x)).run Try.prog w = .ok () w := by
    intro x
    rw [Instr.checkKey, Sem.run_bind, run_underlying Try.underlying3]
    rfl
  have hs : (sizeOf 3).run Try.prog w = .ok 1 w := by kernel_rfl
  have p0 : (part 3 #[.int .i64 a, .int .i64 b] 0).run Try.prog w = .ok (.int .i64 a) w := by kernel_rfl
  have p1 : (part 3 #[.int .i64 a, .int .i64 b] 1).run Try.prog w = .ok (.int .i64 b) w := by kernel_rfl
  simp [Std.Legacy.Range.forIn_eq_forIn_range', Std.Legacy.Range.size, Nat.sub_zero, Nat.add_sub_cancel, Nat.div_one, List.range'_succ, List.range'_zero, List.forIn_cons, List.forIn_nil, hs, p0, p1, h3]
theorem eqTZ (d : Nat) (a b a' b' : Int) (w : World) : (Op.equalIn (d + 2) 68 (.agg #[.int .i64 a, .int .i64 b]) (.agg #[.int .i64 a', .int .i64 b'])).run Try.prog w = .ok (a == a' && b == b') w := by
  rw [Op.equalIn, Sem.run_bind, run_underlying Try.underlying68]
  simp only [Result.andThen_ok]
  have h3 : ∀ x y : Int, (Op.equalIn (d + 1) 3 (.int .i64 x) (.int .i64 y)).run Try.prog w = .ok (x == y) w := by
    intro x y
    rw [Op.equalIn, Sem.run_bind, run_underlying Try.underlying3]
    simp
  have hs : (sizeOf 3).run Try.prog w = .ok 1 w := by kernel_rfl
  have p0 : ∀ a b, (part 3 #[.int .i64 a, .int .i64 b] 0).run Try.prog w = .ok (.int .i64 a) w := fun a b => by kernel_rfl
  have p1 : ∀ a b, (part 3 #[.int .i64 a, .int .i64 b] 1).run Try.prog w = .ok (.int .i64 b) w := fun a b => by kernel_rfl
  by_cases c : a = a' <;> by_cases c2 : b = b' <;> simp [Std.Legacy.Range.forIn_eq_forIn_range', Std.Legacy.Range.size, Nat.sub_zero, Nat.add_sub_cancel, Nat.div_one, List.range'_succ, List.range'_zero, List.forIn_cons, List.forIn_nil, hs, p0, p1, h3, c, c2]
theorem blk_setne {w : World} {g g2 j : Nat} {v : Value} {o : Obj} (h : w.heap[g]? = some o) (hne : g2 ≠ g) : (w.setCell ⟨g2, j, none⟩ v).heap[g]? = some o := by
  show (w.heap.modify g2 _)[g]? = _
  rw [Array.getElem?_modify, if_neg hne]
  exact h
theorem sixArms : ∀ b1 b2 b3 b4 b5 bm : Bool, b1 = false ∨ (b1 = true ∧ b2 = false) ∨ (b1 = true ∧ b2 = true ∧ b3 = false) ∨ (b1 = true ∧ b2 = true ∧ b3 = true ∧ b4 = false) ∨ (b1 = true ∧ b2 = true ∧ b3 = true ∧ b4 = true ∧ b5 = false) ∨ (b1 = true ∧ b2 = true ∧ b3 = true ∧ b4 = true ∧ b5 = true ∧ bm = true) ∨ (b1 = true ∧ b2 = true ∧ b3 = true ∧ b4 = true ∧ b5 = true ∧ bm = false) := by intro b1 b2 b3 b4 b5 bm; cases b1 <;> cases b2 <;> cases b3 <;> cases b4 <;> cases b5 <;> cases bm <;> simp
theorem kindTZ : Sets.KeyKind Try.prog 68 keyTZ := by
  refine Sets.KeyKind.asked (d := .array 2 3) Try.underlying68 (fun x y => rfl) (fun e x w => chkTZ e x.1 x.2 9998 w) (fun x y w => ?_) (fun x => ?_)
  · have h := eqTZ 9998 x.1 x.2 y.1 y.2 w
    show (Op.equalIn (9998 + 2) 68 _ _).run Try.prog w = _
    unfold keyTZ
    rw [h]
    congr 1
    rw [Bool.eq_iff_iff]
    simp [Prod.ext_iff]
  · show Instr.sameBits (9999 + 1) (.agg #[.int .i64 x.1, .int .i64 x.2]) (.agg #[.int .i64 x.1, .int .i64 x.2]) = true
    simp [Instr.sameBits]
@[go_sem] theorem build68 (a b : Int) (w : World) : (Instr.build 68 #[(0, .int .i64 a), (1, .int .i64 b)]).run Try.prog w = .ok (.agg #[.int .i64 a, .int .i64 b]) w := run_build w 68 _ _ (by kernel_rfl)
def tarOne (t : S60) : Bool := decide (0 ≤ t.f0) && decide (t.f0 ≤ 99) && decide (0 ≤ t.f1) && decide (t.f1 ≤ 86399) && decide (1 ≤ t.f2) && decide (t.f2 ≤ 10000) && decide (0 ≤ t.f3) && decide (t.f3 ≤ 100000) && decide (0 ≤ t.f4) && decide (t.f4 ≤ 100000)
def tarOk : List (Int × Int) → List S60 → Bool
  | _, [] => true
  | seen, t :: ts => if tarOne t = true ∧ (t.f0, t.f1) ∉ seen then tarOk (seen ++ [(t.f0, t.f1)]) ts else false
def impl_TariffsOk.f (l0 : List S60) : Option Bool := if l0.length ≤ 9223372036854775807 then some (tarOk [] l0 && decide (l0.length ≤ 40)) else none
set_option maxHeartbeats 8000000 in
set_option maxRecDepth 100000 in
theorem impl_TariffsOk.calls (A0 : Option Addr) (c0 : Nat) (l0 : List (S60)) (r : Bool) (w : World) (hr0 : Kd.C k60 w A0 l0.length l0) (hc0 : l0.length ≤ c0) (h : impl_TariffsOk.f l0 = some r) :
    Calls Try.prog 18 #[.slice A0 l0.length c0] w fun e w' => e = .returned (.bool r) ∧ Below w.heap.size w w' := by
  have hu60 := Try.underlying60
  have HR0 := Aside0.mk hr0
  have HC0 := Aside0.mk hc0
  clear hr0 hc0
  have HB := Aside0.mk (Below.refl w.heap.size w)
  have hlen : l0.length ≤ 9223372036854775807 := by
    by_cases q : l0.length ≤ 9223372036854775807
    · exact q
    · rw [impl_TariffsOk.f, if_neg q] at h; cases h
  rw [impl_TariffsOk.f, if_pos hlen] at h
  have H' := Aside0.mk (Option.some.inj h)
  have HLEN := Aside0.mk hlen
  clear h hlen
  go_enter Try.func18, Try.ntmps18
  go_wp2_with (first | ((with_reducible refine gate_dst (N := 7) rfl ?_); refine Sets.wpList_new keyTZ rfl rfl HB.out (Nat.le_refl _) ?_; intro b w4 hb_ hset_ hB_ hsz_; have HS := Aside0.mk hset_; have HB4 := Aside0.mk hB_; have HGE := Aside0.mk (show w.heap.size ≤ b by omega); clear hb_ hset_ hB_ hsz_))
  clear HB
  have HL : ∀ i : Nat, i < l0.length → l0.drop i = rd_T60 l0 i :: l0.drop (i + 1) := by
    intro i hi
    rw [List.drop_eq_getElem_cons hi]
    simp [rd_T60, hi]
  have zero4 : ∀ w : World, (zeroValue 4).run Try.prog w = .ok (.bool false) w := fun w => by kernel_rfl
  go_loopg [10] (l0.length + 1) (fun g v10 w' => ∃ (x : Int) (i : Nat) (seen : List (Int × Int)), v10 = .int .i64 x ∧ Aside0 (x = (i : Int) ∧ i ≤ l0.length ∧ g = l0.length + 1 - i) ∧ Aside0 ((tarOk seen (l0.drop i) && decide (l0.length ≤ 40)) = r) ∧ Aside0 (Sets.IsSet keyTZ w' b seen) ∧ Aside0 (Below w.heap.size w w'))
  case atStart => exact ⟨0, 0, [], rfl, ⟨⟨rfl, Nat.zero_le _, rfl⟩⟩, H', HS, HB4⟩
  case round =>
    clear H' HS HB4
    obtain ⟨x, i, seen, rfl, HI, HA, HS, HB⟩ := hrel
    by_cases c : i < l0.length
    · have H := HA.out
      clear HA
      have hxi := HI.out.1
      rw [HL i c, ← hxi] at H
      have ci : x < (l0.length : Int) := by omega
      have cb : decide (x < (l0.length : Int)) = true := decide_eq_true ci
      have p101 : 0 ≤ x := by omega
      clear hxi
      obtain ⟨ad101, e101, hx101_0, hx101_1, hx101_2, hx101_3, hx101_4⟩ := at_T60 HR0.out x p101 ci
      cases e101
      replace hx101_0 := (HB.out.cell (World.block_lt_of_cell? w _ hx101_0)).trans hx101_0
      replace hx101_1 := (HB.out.cell (World.block_lt_of_cell? w _ hx101_1)).trans hx101_1
      replace hx101_2 := (HB.out.cell (World.block_lt_of_cell? w _ hx101_2)).trans hx101_2
      replace hx101_3 := (HB.out.cell (World.block_lt_of_cell? w _ hx101_3)).trans hx101_3
      replace hx101_4 := (HB.out.cell (World.block_lt_of_cell? w _ hx101_4)).trans hx101_4
      replace p101 := eq_true p101
      replace ci := eq_true ci
      clear c HL
      generalize rd_T60 l0 x = t at *
      go_upto_region 5 with (first | ((with_reducible refine gate_dst (N := 5) rfl ?_); refine box_event ?hg (N := 5) ?hd (cs := #[.int .i64 0, .int .i64 0, .int .i64 0, .int .i64 0, .int .i64 0]) (t := 60) ?hr ?_; (case hd => rfl); (case hg => rfl); (case hr => first | (go_simp; done) | (go_simp; rfl)); intro gb102 hg w5 hbox hb; have n0_ := Aside0.mk (below_step (by repeat (first | (with_reducible first | exact HB.out | apply below_alloc | apply pw_below_drewN | apply below_drew1 | refine below_set ?_ GE102.out) | exact HB.out)) hb); have n1_ := Aside0.mk (hbox); have n2_ := Aside0.mk ((by rw [hg]; exact (below_size (by repeat (first | (with_reducible first | exact HB.out | apply below_alloc | apply pw_below_drewN | apply below_drew1 | refine below_set ?_ GE102.out) | exact HB.out)))) : w.heap.size ≤ gb102); have n3_ := Aside0.mk (Sets.IsSet.below (by with_reducible repeat (first | exact HS.out | apply Sets.IsSet.drewN | apply Sets.IsSet.drew | apply Sets.IsSet.setCell | apply Sets.IsSet.alloc)) hb);  clear HB HS; have HB := n0_; have BK102 := n1_; have GE102 := n2_; have HS := n3_; clear n0_ n1_ n2_ n3_; clear hb hbox hg; have hczgb102_0 : w5.cell? ⟨gb102, 0, none⟩ = some (.int .i64 0) := (blk_cell BK102.out 0).trans rfl; have hfzgb102_0 := blk_frozen BK102.out 0; have hczgb102_1 : w5.cell? ⟨gb102, 1, none⟩ = some (.int .i64 0) := (blk_cell BK102.out 1).trans rfl; have hfzgb102_1 := blk_frozen BK102.out 1; have hczgb102_2 : w5.cell? ⟨gb102, 2, none⟩ = some (.int .i64 0) := (blk_cell BK102.out 2).trans rfl; have hfzgb102_2 := blk_frozen BK102.out 2; have hczgb102_3 : w5.cell? ⟨gb102, 3, none⟩ = some (.int .i64 0) := (blk_cell BK102.out 3).trans rfl; have hfzgb102_3 := blk_frozen BK102.out 3; have hczgb102_4 : w5.cell? ⟨gb102, 4, none⟩ = some (.int .i64 0) := (blk_cell BK102.out 4).trans rfl; have hfzgb102_4 := blk_frozen BK102.out 4))
      (try simp only [Act.put, List.setIfInBounds_toArray, List.set_cons_zero, List.set_cons_succ])
      go_cut [6] (fun v6 wc => ∃ gb103 : Nat, v6 = .pointer (some ⟨gb103, 0, none⟩) ∧ Aside0 (w.heap.size ≤ gb103) ∧ Aside0 (wc.heap[gb102]? = some (.cells #[.int .i64 t.f0, .int .i64 t.f1, .int .i64 t.f2, .int .i64 t.f3, .int .i64 t.f4] 60 (0, 0))) ∧ Aside0 (wc.heap[gb103]? = some (.cells #[.int .i64 t.f0, .int .i64 t.f1] 68 (0, 0))) ∧ Aside0 (Sets.IsSet keyTZ wc b seen) ∧ Aside0 (Below w.heap.size w wc))
      case first =>
        go_wp2_with (first | ((with_reducible refine gate_dst (N := 6) rfl ?_); refine box_event ?hg (N := 6) ?hd (cs := #[.int .i64 0, .int .i64 0]) (t := 68) ?hr ?_; (case hd => rfl); (case hg => rfl); (case hr => first | (go_simp; done) | (go_simp; rfl)); intro gb103 hg w6 hbox hb; have n0_ := Aside0.mk (below_step (by repeat (first | (with_reducible first | exact HB.out | apply below_alloc | apply pw_below_drewN | apply below_drew1 | refine below_set ?_ GE102.out) | exact HB.out)) hb); have n1_ := Aside0.mk (hbox); have n2_ := Aside0.mk ((by rw [hg]; exact (below_size (by repeat (first | (with_reducible first | exact HB.out | apply below_alloc | apply pw_below_drewN | apply below_drew1 | refine below_set ?_ GE102.out) | exact HB.out)))) : w.heap.size ≤ gb103); have n3_ := Aside0.mk (Sets.IsSet.below (by with_reducible repeat (first | exact HS.out | apply Sets.IsSet.drewN | apply Sets.IsSet.drew | apply Sets.IsSet.setCell | apply Sets.IsSet.alloc)) hb);  have hne1 : gb102 ≠ gb103 := (by rw [hg]; refine Nat.ne_of_lt (blk_lt (o := .cells #[.int .i64 t.f0, .int .i64 t.f1, .int .i64 t.f2, .int .i64 t.f3, .int .i64 t.f4] 60 (0, 0)) ?_); (with_reducible repeat (first | refine blk_drewN ?_ _ | refine blk_drew ?_ | refine blk_alloc ?_ _)); refine blk_put (cs := #[.int .i64 t.f0, .int .i64 t.f1, .int .i64 t.f2, .int .i64 t.f3, .int .i64 0]) ?_ 4 _ rfl; (with_reducible repeat (first | refine blk_drewN ?_ _ | refine blk_drew ?_ | refine blk_alloc ?_ _)); refine blk_put (cs := #[.int .i64 t.f0, .int .i64 t.f1, .int .i64 t.f2, .int .i64 0, .int .i64 0]) ?_ 3 _ rfl; (with_reducible repeat (first | refine blk_drewN ?_ _ | refine blk_drew ?_ | refine blk_alloc ?_ _)); refine blk_put (cs := #[.int .i64 t.f0, .int .i64 t.f1, .int .i64 0, .int .i64 0, .int .i64 0]) ?_ 2 _ rfl; (with_reducible repeat (first | refine blk_drewN ?_ _ | refine blk_drew ?_ | refine blk_alloc ?_ _)); refine blk_put (cs := #[.int .i64 t.f0, .int .i64 0, .int .i64 0, .int .i64 0, .int .i64 0]) ?_ 1 _ rfl; (with_reducible repeat (first | refine blk_drewN ?_ _ | refine blk_drew ?_ | refine blk_alloc ?_ _)); refine blk_put (cs := #[.int .i64 0, .int .i64 0, .int .i64 0, .int .i64 0, .int .i64 0]) ?_ 0 _ rfl; (with_reducible repeat (first | refine blk_drewN ?_ _ | refine blk_drew ?_ | refine blk_alloc ?_ _)); exact BK102.out); have hne2 := hne1.symm; have n4_ : Aside0 (w6.heap[gb102]? = some (.cells #[.int .i64 t.f0, .int .i64 t.f1, .int .i64 t.f2, .int .i64 t.f3, .int .i64 t.f4] 60 (0, 0))) := ⟨blk_below (by (with_reducible repeat (first | refine blk_drewN ?_ _ | refine blk_drew ?_ | refine blk_alloc ?_ _)); refine blk_put (cs := #[.int .i64 t.f0, .int .i64 t.f1, .int .i64 t.f2, .int .i64 t.f3, .int .i64 0]) ?_ 4 _ rfl; (with_reducible repeat (first | refine blk_drewN ?_ _ | refine blk_drew ?_ | refine blk_alloc ?_ _)); refine blk_put (cs := #[.int .i64 t.f0, .int .i64 t.f1, .int .i64 t.f2, .int .i64 0, .int .i64 0]) ?_ 3 _ rfl; (with_reducible repeat (first | refine blk_drewN ?_ _ | refine blk_drew ?_ | refine blk_alloc ?_ _)); refine blk_put (cs := #[.int .i64 t.f0, .int .i64 t.f1, .int .i64 0, .int .i64 0, .int .i64 0]) ?_ 2 _ rfl; (with_reducible repeat (first | refine blk_drewN ?_ _ | refine blk_drew ?_ | refine blk_alloc ?_ _)); refine blk_put (cs := #[.int .i64 t.f0, .int .i64 0, .int .i64 0, .int .i64 0, .int .i64 0]) ?_ 1 _ rfl; (with_reducible repeat (first | refine blk_drewN ?_ _ | refine blk_drew ?_ | refine blk_alloc ?_ _)); refine blk_put (cs := #[.int .i64 0, .int .i64 0, .int .i64 0, .int .i64 0, .int .i64 0]) ?_ 0 _ rfl; (with_reducible repeat (first | refine blk_drewN ?_ _ | refine blk_drew ?_ | refine blk_alloc ?_ _)); exact BK102.out) hb⟩; clear BK102; have BK102 := n4_; clear n4_; clear HB HS; have HB := n0_; have BK103 := n1_; have GE103 := n2_; have HS := n3_; clear n0_ n1_ n2_ n3_; clear hb hbox hg; have hczgb103_0 : w6.cell? ⟨gb103, 0, none⟩ = some (.int .i64 0) := (blk_cell BK103.out 0).trans rfl; have hfzgb103_0 := blk_frozen BK103.out 0; have hczgb103_1 : w6.cell? ⟨gb103, 1, none⟩ = some (.int .i64 0) := (blk_cell BK103.out 1).trans rfl; have hfzgb103_1 := blk_frozen BK103.out 1))
        go_meet
        case rel => exact ⟨gb103, rfl, GE103, ⟨by (with_reducible repeat (first | refine blk_drewN ?_ _ | refine blk_drew ?_ | refine blk_alloc ?_ _ | refine blk_setne ?_ hne2)); exact BK102.out⟩, ⟨by (with_reducible repeat (first | refine blk_drewN ?_ _ | refine blk_drew ?_ | refine blk_alloc ?_ _)); refine blk_put (cs := #[.int .i64 t.f0, .int .i64 0]) ?_ 1 _ rfl; (with_reducible repeat (first | refine blk_drewN ?_ _ | refine blk_drew ?_ | refine blk_alloc ?_ _)); refine blk_put (cs := #[.int .i64 0, .int .i64 0]) ?_ 0 _ rfl; (with_reducible repeat (first | refine blk_drewN ?_ _ | refine blk_drew ?_ | refine blk_alloc ?_ _)); exact BK103.out⟩, ⟨by with_reducible repeat (first | exact HS.out | apply Sets.IsSet.drewN | apply Sets.IsSet.drew | apply Sets.IsSet.setCell | apply Sets.IsSet.alloc)⟩, ⟨by repeat (first | (with_reducible first | exact HB.out | apply below_alloc | apply pw_below_drewN | apply below_drew1 | refine below_set ?_ GE102.out | refine below_set ?_ GE103.out) | exact HB.out)⟩⟩
      case rest =>
      clear BK102 HS HB
      obtain ⟨gb103, rfl, GE103, BK102, BK103, HS, HB⟩ := hcut
      have hcy0 : wc.cell? ⟨gb102, 0, none⟩ = some (.int .i64 t.f0) := (blk_cell BK102.out 0).trans rfl
      have hcy1 : wc.cell? ⟨gb102, 1, none⟩ = some (.int .i64 t.f1) := (blk_cell BK102.out 1).trans rfl
      have hcy2 : wc.cell? ⟨gb102, 2, none⟩ = some (.int .i64 t.f2) := (blk_cell BK102.out 2).trans rfl
      have hcy3 : wc.cell? ⟨gb102, 3, none⟩ = some (.int .i64 t.f3) := (blk_cell BK102.out 3).trans rfl
      have hcy4 : wc.cell? ⟨gb102, 4, none⟩ = some (.int .i64 t.f4) := (blk_cell BK102.out 4).trans rfl
      have hcx0 : wc.cell? ⟨gb103, 0, none⟩ = some (.int .i64 t.f0) := (blk_cell BK103.out 0).trans rfl
      have hcx1 : wc.cell? ⟨gb103, 1, none⟩ = some (.int .i64 t.f1) := (blk_cell BK103.out 1).trans rfl
      have hin : ∀ a b c : Int, impl_in.f a b c = some (decide (b ≤ a) && decide (a ≤ c)) := by
        intro a b c
        unfold impl_in.f
        by_cases q : a ≥ b
        · rw [if_pos q]; simp [q]
        · rw [if_neg q]; simp [q]
      obtain ⟨b1, hb1⟩ : ∃ q, (decide (0 ≤ t.f0) && decide (t.f0 ≤ 99)) = q := ⟨_, rfl⟩
      obtain ⟨b2, hb2⟩ : ∃ q, (decide (0 ≤ t.f1) && decide (t.f1 ≤ 86399)) = q := ⟨_, rfl⟩
      obtain ⟨b3, hb3⟩ : ∃ q, (decide (1 ≤ t.f2) && decide (t.f2 ≤ 10000)) = q := ⟨_, rfl⟩
      obtain ⟨b4, hb4⟩ : ∃ q, (decide (0 ≤ t.f3) && decide (t.f3 ≤ 100000)) = q := ⟨_, rfl⟩
      obtain ⟨b5, hb5⟩ : ∃ q, (decide (0 ≤ t.f4) && decide (t.f4 ≤ 100000)) = q := ⟨_, rfl⟩
      have A1 := Aside0.mk ((hin t.f0 0 99).trans (congrArg some hb1))
      have A2 := Aside0.mk ((hin t.f1 0 86399).trans (congrArg some hb2))
      have A3 := Aside0.mk ((hin t.f2 1 10000).trans (congrArg some hb3))
      have A4 := Aside0.mk ((hin t.f3 0 100000).trans (congrArg some hb4))
      have A5 := Aside0.mk ((hin t.f4 0 100000).trans (congrArg some hb5))
      have hone : tarOne t = (b1 && b2 && b3 && b4 && b5) := by subst hb1 hb2 hb3 hb4 hb5; unfold tarOne; simp only [Bool.and_assoc]
      clear hin hb1 hb2 hb3 hb4 hb5
      obtain ⟨bm, hbm⟩ : ∃ q : Bool, q = true ↔ (t.f0, t.f1) ∈ seen := ⟨decide ((t.f0, t.f1) ∈ seen), by simp⟩
      have hstep : tarOk seen (t :: l0.drop (i + 1)) = if (b1 && b2 && b3 && b4 && b5 && !bm) = true then tarOk (seen ++ [(t.f0, t.f1)]) (l0.drop (i + 1)) else false := by
        rw [tarOk, hone]
        by_cases qm : (t.f0, t.f1) ∈ seen
        · obtain rfl := hbm.2 qm
          simp [qm]
        · have qb : bm = false := by cases bm with | true => exact absurd (hbm.1 rfl) qm | false => rfl
          subst qb
          simp [qm]
      rw [hstep] at H
      have HA := Aside0.mk H
      have HM := Sets.Tells.mk hbm
      clear H hstep hone hbm
      go_upto_region 6 with (fail)
      go_cut [51] (fun v51 wd => ∃ q : Bool, v51 = .bool q ∧ Aside0 (q = !(b1 && b2 && b3 && b4 && b5 && !bm)) ∧ Aside0 (wd.heap[gb103]? = some (.cells #[.int .i64 t.f0, .int .i64 t.f1] 68 (0, 0))) ∧ Aside0 (Sets.IsSet keyTZ wd b seen) ∧ Aside0 (Below w.heap.size w wd))
      case first =>
        have arms := sixArms b1 b2 b3 b4 b5 bm
        clear HA HI
        rcases arms with rfl | ⟨rfl, rfl⟩ | ⟨rfl, rfl, rfl⟩ | ⟨rfl, rfl, rfl, rfl⟩ | ⟨rfl, rfl, rfl, rfl, rfl⟩ | ⟨rfl, rfl, rfl, rfl, rfl, rfl⟩ | ⟨rfl, rfl, rfl, rfl, rfl, rfl⟩
        all_goals
          go_wp2_with (first | (go_at_call 38; (with_reducible refine (impl_in.calls _ _ _ _ _ A1.out).mono ?_); rintro e w' ⟨rfl, ⟨nd, rfl⟩⟩; (try first | exact ⟨rfl, _, World.drewN_drewN _ _ _⟩ | exact ⟨rfl, _, Eq.trans (World.drewN_drewN _ _ _) (congrArg (World.drewN _) (Nat.add_assoc _ _ _))⟩)) | (go_at_call 38; (with_reducible refine (impl_in.calls _ _ _ _ _ A2.out).mono ?_); rintro e w' ⟨rfl, ⟨nd, rfl⟩⟩; (try first | exact ⟨rfl, _, World.drewN_drewN _ _ _⟩ | exact ⟨rfl, _, Eq.trans (World.drewN_drewN _ _ _) (congrArg (World.drewN _) (Nat.add_assoc _ _ _))⟩)) | (go_at_call 38; (with_reducible refine (impl_in.calls _ _ _ _ _ A3.out).mono ?_); rintro e w' ⟨rfl, ⟨nd, rfl⟩⟩; (try first | exact ⟨rfl, _, World.drewN_drewN _ _ _⟩ | exact ⟨rfl, _, Eq.trans (World.drewN_drewN _ _ _) (congrArg (World.drewN _) (Nat.add_assoc _ _ _))⟩)) | (go_at_call 38; (with_reducible refine (impl_in.calls _ _ _ _ _ A4.out).mono ?_); rintro e w' ⟨rfl, ⟨nd, rfl⟩⟩; (try first | exact ⟨rfl, _, World.drewN_drewN _ _ _⟩ | exact ⟨rfl, _, Eq.trans (World.drewN_drewN _ _ _) (congrArg (World.drewN _) (Nat.add_assoc _ _ _))⟩)) | (go_at_call 38; (with_reducible refine (impl_in.calls _ _ _ _ _ A5.out).mono ?_); rintro e w' ⟨rfl, ⟨nd, rfl⟩⟩; (try first | exact ⟨rfl, _, World.drewN_drewN _ _ _⟩ | exact ⟨rfl, _, Eq.trans (World.drewN_drewN _ _ _) (congrArg (World.drewN _) (Nat.add_assoc _ _ _))⟩)) | (at_lookup; refine Sets.wpList_look (enc := keyTZ) (by first | rfl | decide) rfl kindTZ Try.underlying67 (zero4 _) (by with_reducible repeat (first | exact HS.out | apply Sets.IsSet.drewN | apply Sets.IsSet.drew | apply Sets.IsSet.setCell | apply Sets.IsSet.alloc)) (t.f0, t.f1) rfl rfl HM ?_))
          go_meet
          case rel => exact ⟨_, rfl, ⟨by simp⟩, ⟨by (with_reducible repeat (first | refine blk_drewN ?_ _ | refine blk_drew ?_ | refine blk_alloc ?_ _)); exact BK103.out⟩, ⟨by with_reducible repeat (first | exact HS.out | apply Sets.IsSet.drewN | apply Sets.IsSet.drew | apply Sets.IsSet.setCell | apply Sets.IsSet.alloc)⟩, ⟨by repeat (first | (with_reducible first | exact HB.out | apply below_alloc | apply pw_below_drewN | apply below_drew1) | exact HB.out)⟩⟩
      case rest =>
      clear BK102 BK103 HS HB hcy0 hcy1 hcy2 hcy3 hcy4 hcx0 hcx1 A1 A2 A3 A4 A5
      obtain ⟨q, rfl, HQ, BK103, HS, HB⟩ := hcut
      have hcx0 : wc.cell? ⟨gb103, 0, none⟩ = some (.int .i64 t.f0) := (blk_cell BK103.out 0).trans rfl
      have hcx1 : wc.cell? ⟨gb103, 1, none⟩ = some (.int .i64 t.f1) := (blk_cell BK103.out 1).trans rfl
      have hgk := HI.out.2.2
      cases q with
      | true =>
        have hr : r = false := by
          have hall : (b1 && b2 && b3 && b4 && b5 && !bm) = false := by have := HQ.out; revert this; cases (b1 && b2 && b3 && b4 && b5 && !bm) <;> simp
          have := HA.out
          rw [hall] at this
          simpa using this.symm
        subst hr
        clear HA HQ HI hgk
        go_wp2_with (fail)
        go_ret
        exact ⟨rfl, by repeat (first | (with_reducible first | exact HB7.out | exact HB.out | apply below_alloc | apply pw_below_drewN | apply below_drew1) | exact HB.out)⟩
      | false =>
        have hall : (b1 && b2 && b3 && b4 && b5 && !bm) = true := by have := HQ.out; revert this; cases (b1 && b2 && b3 && b4 && b5 && !bm) <;> simp
        have hbm : bm = false := by revert hall; cases bm <;> simp
        have H := HA.out
        rw [if_pos hall] at H
        replace HA := Aside0.mk H
        subst hbm
        clear H hall HQ
        go_wp2_with (first | (at_mapUpdate; refine Sets.wpList_put (enc := keyTZ) rfl rfl kindTZ Try.underlying67 (by with_reducible repeat (first | exact HS.out | apply Sets.IsSet.drewN | apply Sets.IsSet.drew | apply Sets.IsSet.setCell | apply Sets.IsSet.alloc)) (t.f0, t.f1) rfl rfl rfl HM (by repeat (first | (with_reducible first | exact HB.out | apply below_alloc | apply pw_below_drewN | apply below_drew1 | refine below_set ?_ GE102.out | refine below_set ?_ GE103.out) | exact HB.out)) HGE.out ?_; intro w7 hset_ hB_ hk_ hs_; have HS7 := Aside0.mk hset_; have HB7 := Aside0.mk hB_; clear hset_ hB_ hk_ hs_))
        have hlt := of_eq_true ci
        have h62 := HLEN.out
        have hi := HI.out
        have hw : wrap64 (x + 1) = ((i + 1 : Nat) : Int) := by unfold wrap64; omega
        go_roundg (gk - 1)
        case measure => omega
        case rel => exact ⟨_, i + 1, _, rfl, ⟨⟨hw, by omega, by omega⟩⟩, HA, ⟨by have q := HS7.out; (try rw [if_neg (by decide)] at q); exact q⟩, ⟨by repeat (first | (with_reducible first | exact HB7.out | exact HB.out | apply below_alloc | apply pw_below_drewN | apply below_drew1) | exact HB.out)⟩⟩
    · have hi := HI.out
      have hx : decide (x < (l0.length : Int)) = false := decide_eq_false (by omega)
      have he : l0.drop i = [] := List.drop_eq_nil_iff.2 (by omega)
      have H := HA.out
      rw [he] at H
      have hr : decide ((l0.length : Int) ≤ 40) = r := by
        rw [← H, tarOk]
        simp only [Bool.true_and]
        congr 1
        exact propext (by omega)
      clear H HA he hi c HI
      go_wp2_with (fail)
      go_ret
      exact ⟨by first | (simp [hr]; done) | (rw [← hr]; rfl) | (rw [← hr]; simp; done), by repeat (first | (with_reducible first | exact HB7.out | exact HB.out | apply below_alloc | apply pw_below_drewN | apply below_drew1) | exact HB.out)⟩

end Go.Proofs.Ytodehmbgcncnhaa.PFnLonger
