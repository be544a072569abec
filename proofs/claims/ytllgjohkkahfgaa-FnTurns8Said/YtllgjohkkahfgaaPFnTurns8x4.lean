-- laid by a program of this session (wip/lay/lay.py); Lean checks it
import Derived.Test.YtllgjohkkahfgaaVFnTurns8Short
import Derived.Test.YtllgjohkkahfgaaPFnTurns8x0
import Derived.Test.YtllgjohkkahfgaaPFnTurns8x1
import Derived.Test.YtllgjohkkahfgaaPFnTurns8x2
import Derived.Test.YtllgjohkkahfgaaPFnTurns8x3
namespace Go.Proofs.Ytllgjohkkahfgaa.PFnTurns8
-- squashed
open Go.RowKit Go.Proofs.YtllgjohkkahfgaaW.PrintWords Go.Proofs.YtllgjohkkahfgaaW.PrintLast Go.Proofs.YtllgjohkkahfgaaW.PrintMore Go.Proofs.Ytllgjohkkahfgaa.Short
attribute [local go_sem] max2_int min2_int max_two min_two max_three min_three max_four min_four   -- for this text's walks alone
set_option linter.unusedVariables false
set_option linter.unusedSimpArgs false

/-! ### impl_DeskOk: function 12 -/
mutual
def impl_DeskOk.j0 : Nat → Bool → Int → List (S41) → List (S70) → Int → Option (Bool)
 | 0, _, _, _, _, _ => none
 | k + 1, x33, x122000, x122001, x122002, x122003 => if x33 = true then (some false) else (impl_DeskOk.l0 k (([] : List Int)) x122001 (x122001.length : Int) 0 x122000 x122001 x122002 x122003)
def impl_DeskOk.l0 : Nat → List Int → List (S41) → Int → Int → Int → List (S41) → List (S70) → Int → Option (Bool)
 | 0, _, _, _, _, _, _, _, _ => none
 | k + 1, x3, x36, x37, x38, x122000, x122001, x122002, x122003 => if x38 < x37 then (if 0 ≤ x38 then (if x38 < (x36.length : Int) then ((impl_in.f ((rd_T41 x36 x38).f0) 0 255).bind fun t130 => (if t130 = true then ((impl_in.f ((rd_T41 x36 x38).f1) (-1) 1000000000).bind fun t131 => (if t131 = true then ((impl_in.f ((rd_T41 x36 x38).f2) 0 x122000).bind fun t132 => (if t132 = true then (if ((rd_T41 x36 x38).f1) ≥ 0 then ((runtime_boundsError_RuntimeError.f x3 ((rd_T41 x36 x38).f1)).bind fun t133 => (if t133 = true then (some false) else (if x3.length < 17592186044416 then (impl_DeskOk.l0 k (x3 ++ [(rd_T41 x36 x38).f1]) x36 x37 (wrap64 (x38 + 1)) x122000 x122001 x122002 x122003) else (none)))) else (if x3.length < 17592186044416 then (impl_DeskOk.l0 k (x3 ++ [(rd_T41 x36 x38).f1]) x36 x37 (wrap64 (x38 + 1)) x122000 x122001 x122002 x122003) else (none))) else (some false))) else (some false))) else (some false))) else (none)) else (none)) else (impl_DeskOk.l1 k x3 x122002 (x122002.length : Int) 0 x122000 x122001 x122002 x122003)
def impl_DeskOk.l1 : Nat → List Int → List (S70) → Int → Int → Int → List (S41) → List (S70) → Int → Option (Bool)
 | 0, _, _, _, _, _, _, _, _ => none
 | k + 1, x3, x76, x77, x78, x122000, x122001, x122002, x122003 => if x78 < x77 then (if 0 ≤ x78 then (if x78 < (x76.length : Int) then ((impl_in.f ((rd_T70 x76 x78).f0) 0 1000000000).bind fun t145 => (if t145 = true then ((runtime_boundsError_RuntimeError.f x3 ((rd_T70 x76 x78).f0)).bind fun t146 => (if t146 = true then (some false) else ((impl_skillOk.f ((rd_T70 x76 x78).f1)).bind fun t147 => (if t147 = true then ((impl_in.f ((rd_T70 x76 x78).f2) 0 9).bind fun t148 => (if t148 = true then ((impl_in.f ((rd_T70 x76 x78).f3) 0 x122000).bind fun t149 => (if t149 = true then (if x3.length < 17592186044416 then (impl_DeskOk.l1 k (x3 ++ [(rd_T70 x76 x78).f0]) x76 x77 (wrap64 (x78 + 1)) x122000 x122001 x122002 x122003) else (none)) else (some false))) else (some false))) else (some false))))) else (some false))) else (none)) else (none)) else ((impl_Desk_next.f k x122000 x122001 x122002 x122003).bind fun bt140 => (some (!bt140.2.2)))
end
def impl_DeskOk.f (k : Nat) (a0_0 : Int) (l0_1 : List (S41)) (l0_2 : List (S70)) (a0_3 : Int) : Option (Bool) := (impl_in.f a0_0 0 1000000000).bind fun t122 => (if t122 = true then ((impl_in.f (l0_1.length : Int) 1 12).bind fun t123 => (if t123 = true then (if (l0_2.length : Int) > 40 then (impl_DeskOk.j0 k true a0_0 l0_1 l0_2 a0_3) else ((impl_in.f a0_3 0 1000000).bind fun t124 => (impl_DeskOk.j0 k (!t124) a0_0 l0_1 l0_2 a0_3))) else (impl_DeskOk.j0 k true a0_0 l0_1 l0_2 a0_3))) else (impl_DeskOk.j0 k true a0_0 l0_1 l0_2 a0_3))
theorem impl_DeskOk.mono_l : ∀ k, (∀ y0 y1 y2 y3 y4, LeO (impl_DeskOk.j0 k y0 y1 y2 y3 y4) (impl_DeskOk.j0 (k + 1) y0 y1 y2 y3 y4)) ∧ (∀ y0 y1 y2 y3 y4 y5 y6 y7, LeO (impl_DeskOk.l0 k y0 y1 y2 y3 y4 y5 y6 y7) (impl_DeskOk.l0 (k + 1) y0 y1 y2 y3 y4 y5 y6 y7)) ∧ (∀ y0 y1 y2 y3 y4 y5 y6 y7, LeO (impl_DeskOk.l1 k y0 y1 y2 y3 y4 y5 y6 y7) (impl_DeskOk.l1 (k + 1) y0 y1 y2 y3 y4 y5 y6 y7))
 | 0 => ⟨fun _ _ _ _ _ r h => by simp [impl_DeskOk.j0] at h, fun _ _ _ _ _ _ _ _ r h => by simp [impl_DeskOk.l0] at h, fun _ _ _ _ _ _ _ _ r h => by simp [impl_DeskOk.l1] at h⟩
 | k + 1 => by
  obtain ⟨ih0, ih1, ih2⟩ := impl_DeskOk.mono_l k
  refine ⟨?_, ?_, ?_⟩
  ·intro y0 y1 y2 y3 y4
   unfold impl_DeskOk.j0
   repeat' first
   | (with_reducible exact ih0 _ _ _ _ _)
   | (with_reducible exact ih1 _ _ _ _ _ _ _ _)
   | (with_reducible exact ih2 _ _ _ _ _ _ _ _)
   | (with_reducible exact impl_Desk_next.mono _ _ _ _ _)
   | (with_reducible exact LeO.refl _)
   | (with_reducible exact LeO.none _)
   | (with_reducible refine LeO.ite ?_ ?_)
   | (with_reducible refine LeO.bind ?_ (fun _ => ?_))
   | exact ih0 _ _ _ _ _
   | exact ih1 _ _ _ _ _ _ _ _
   | exact ih2 _ _ _ _ _ _ _ _
   | exact impl_Desk_next.mono _ _ _ _ _
   | exact LeO.none _
   | refine LeO.ite ?_ ?_
   | refine LeO.bind ?_ (fun _ => ?_)
  ·intro y0 y1 y2 y3 y4 y5 y6 y7
   unfold impl_DeskOk.l0
   repeat' first
   | (with_reducible exact ih0 _ _ _ _ _)
   | (with_reducible exact ih1 _ _ _ _ _ _ _ _)
   | (with_reducible exact ih2 _ _ _ _ _ _ _ _)
   | (with_reducible exact impl_Desk_next.mono _ _ _ _ _)
   | (with_reducible exact LeO.refl _)
   | (with_reducible exact LeO.none _)
   | (with_reducible refine LeO.ite ?_ ?_)
   | (with_reducible refine LeO.bind ?_ (fun _ => ?_))
   | exact ih0 _ _ _ _ _
   | exact ih1 _ _ _ _ _ _ _ _
   | exact ih2 _ _ _ _ _ _ _ _
   | exact impl_Desk_next.mono _ _ _ _ _
   | exact LeO.none _
   | refine LeO.ite ?_ ?_
   | refine LeO.bind ?_ (fun _ => ?_)
  ·intro y0 y1 y2 y3 y4 y5 y6 y7
   unfold impl_DeskOk.l1
   repeat' first
   | (with_reducible exact ih0 _ _ _ _ _)
   | (with_reducible exact ih1 _ _ _ _ _ _ _ _)
   | (with_reducible exact ih2 _ _ _ _ _ _ _ _)
   | (with_reducible exact impl_Desk_next.mono _ _ _ _ _)
   | (with_reducible exact LeO.refl _)
   | (with_reducible exact LeO.none _)
   | (with_reducible refine LeO.ite ?_ ?_)
   | (with_reducible refine LeO.bind ?_ (fun _ => ?_))
   | exact ih0 _ _ _ _ _
   | exact ih1 _ _ _ _ _ _ _ _
   | exact ih2 _ _ _ _ _ _ _ _
   | exact impl_Desk_next.mono _ _ _ _ _
   | exact LeO.none _
   | refine LeO.ite ?_ ?_
   | refine LeO.bind ?_ (fun _ => ?_)
theorem impl_DeskOk.mono : ∀ a0 a1 a2 a3 k, LeO (impl_DeskOk.f k a0 a1 a2 a3) (impl_DeskOk.f (k + 1) a0 a1 a2 a3) := by
 intro a0 a1 a2 a3 k
 obtain ⟨ih0, ih1, ih2⟩ := impl_DeskOk.mono_l k
 unfold impl_DeskOk.f
 repeat' first
   | (with_reducible exact ih0 _ _ _ _ _)
   | (with_reducible exact ih1 _ _ _ _ _ _ _ _)
   | (with_reducible exact ih2 _ _ _ _ _ _ _ _)
   | (with_reducible exact impl_Desk_next.mono _ _ _ _ _)
   | (with_reducible exact LeO.refl _)
   | (with_reducible exact LeO.none _)
   | (with_reducible refine LeO.ite ?_ ?_)
   | (with_reducible refine LeO.bind ?_ (fun _ => ?_))
   | exact ih0 _ _ _ _ _
   | exact ih1 _ _ _ _ _ _ _ _
   | exact ih2 _ _ _ _ _ _ _ _
   | exact impl_Desk_next.mono _ _ _ _ _
   | exact LeO.none _
   | refine LeO.ite ?_ ?_
   | refine LeO.bind ?_ (fun _ => ?_)
set_option maxHeartbeats 8000000 in
set_option maxRecDepth 100000 in
theorem impl_DeskOk.calls (k : Nat) (a0_0 : Int) (A0_1 : Option Addr) (c0_1 : Nat) (l0_1 : List (S41)) (A0_2 : Option Addr) (c0_2 : Nat) (l0_2 : List (S70)) (a0_3 : Int) (r : Bool) (w : World) (hr0_1 : Kd.C k41 w A0_1 l0_1.length l0_1) (hc0_1 : l0_1.length ≤ c0_1) (hr0_2 : Kd.C k70 w A0_2 l0_2.length l0_2) (hc0_2 : l0_2.length ≤ c0_2) (h : impl_DeskOk.f k a0_0 l0_1 l0_2 a0_3 = some r) :
  Calls Try.prog 12 #[.agg #[.int .i64 a0_0, .slice A0_1 l0_1.length c0_1, .slice A0_2 l0_2.length c0_2, .int .i64 a0_3]] w fun e w' => e = .returned (.bool r) ∧ Below w.heap.size w w' := by
 have hu31 := Try.underlying31
 have hu41 := Try.underlying41
 have hu70 := Try.underlying70
 have HR0_1 := Aside0.mk hr0_1
 have HC0_1 := Aside0.mk hc0_1
 clear hr0_1 hc0_1
 have HR0_2 := Aside0.mk hr0_2
 have HC0_2 := Aside0.mk hc0_2
 clear hr0_2 hc0_2
 have HB := Aside0.mk (Below.refl w.heap.size w)
 have H : ((impl_in.f a0_0 0 1000000000).bind fun t122 => (if t122 = true then ((impl_in.f (l0_1.length : Int) 1 12).bind fun t123 => (if t123 = true then (if (l0_2.length : Int) > 40 then (impl_DeskOk.j0 k true a0_0 l0_1 l0_2 a0_3) else ((impl_in.f a0_3 0 1000000).bind fun t124 => (impl_DeskOk.j0 k (!t124) a0_0 l0_1 l0_2 a0_3))) else (impl_DeskOk.j0 k true a0_0 l0_1 l0_2 a0_3))) else (impl_DeskOk.j0 k true a0_0 l0_1 l0_2 a0_3))) = some r := h
 clear h
 have HC2 := Aside0.mk H
 clear H
 go_enter Try.func12, Try.ntmps12
 go_upto_region 1 with (first | ((with_reducible refine gate_dst (N := 1) rfl ?_); (try (refine gate_guard (by rfl) ?_; dsimp only)); refine box_event ?hg (N := 1) ?hd (cs := #[.int .i64 a0_0, .slice A0_1 l0_1.length c0_1, .slice A0_2 l0_2.length c0_2, .int .i64 a0_3]) (t := 31) ?hr ?_; (case hd => rfl); (case hg => rfl); (case hr => first | (go_simp; done) | (go_simp; rfl)); intro gb121 hg w3 hbox hb; have n0_ := Aside0.mk (below_step belowNow hb); have n1_ := Aside0.mk (hbox); have n2_ := Aside0.mk ((by rw [hg]; exact (below_size belowNow) : w.heap.size ≤ gb121)); have n3_ := n2_; clear HB; have HB := n0_; have BK121 := n1_; have GW121 := n2_; have GE121 := n3_; clear n0_ n1_ n2_ n3_; clear hb hbox hg))
 (try simp only [Act.put, List.setIfInBounds_toArray, List.set_cons_zero, List.set_cons_succ])
 go_cut [33] (fun v33 wc => ∃ (kq : Nat) (x33_1 : Bool), v33 = .bool x33_1 ∧ Aside0 (impl_DeskOk.j0 kq x33_1 a0_0 l0_1 l0_2 a0_3 = some r) ∧ Aside0 (kq ≤ k) ∧ Aside0 (wc.heap[gb121]? = some (.cells #[.int .i64 a0_0, (.slice A0_1 l0_1.length c0_1), (.slice A0_2 l0_2.length c0_2), .int .i64 a0_3] 31 (0, 0))) ∧ Aside0 (Below w.heap.size w wc))
 case first =>
  have H := HC2.out
  clear HC2
  replace H := Option.bind_eq_some_iff.mp H
  obtain ⟨t122, A40, H⟩ := H
  replace H : (if t122 = true then ((impl_in.f (l0_1.length : Int) 1 12).bind fun t123 => (if t123 = true then (if (l0_2.length : Int) > 40 then (impl_DeskOk.j0 k true a0_0 l0_1 l0_2 a0_3) else ((impl_in.f a0_3 0 1000000).bind fun t124 => (impl_DeskOk.j0 k (!t124) a0_0 l0_1 l0_2 a0_3))) else (impl_DeskOk.j0 k true a0_0 l0_1 l0_2 a0_3))) else (impl_DeskOk.j0 k true a0_0 l0_1 l0_2 a0_3)) = some r := H
  have A4 := Aside0.mk A40
  clear A40
  by_cases c5 : t122 = true
  ·subst c5
   have H1 : ((impl_in.f (l0_1.length : Int) 1 12).bind fun t123 => (if t123 = true then (if (l0_2.length : Int) > 40 then (impl_DeskOk.j0 k true a0_0 l0_1 l0_2 a0_3) else ((impl_in.f a0_3 0 1000000).bind fun t124 => (impl_DeskOk.j0 k (!t124) a0_0 l0_1 l0_2 a0_3))) else (impl_DeskOk.j0 k true a0_0 l0_1 l0_2 a0_3))) = some r := by rw [if_pos rfl] at H; exact H
   clear H
   have H := H1
   clear H1
   replace H := Option.bind_eq_some_iff.mp H
   obtain ⟨t123, A60, H⟩ := H
   replace H : (if t123 = true then (if (l0_2.length : Int) > 40 then (impl_DeskOk.j0 k true a0_0 l0_1 l0_2 a0_3) else ((impl_in.f a0_3 0 1000000).bind fun t124 => (impl_DeskOk.j0 k (!t124) a0_0 l0_1 l0_2 a0_3))) else (impl_DeskOk.j0 k true a0_0 l0_1 l0_2 a0_3)) = some r := H
   have A6 := Aside0.mk A60
   clear A60
   by_cases c7 : t123 = true
   ·subst c7
    have H1 : (if (l0_2.length : Int) > 40 then (impl_DeskOk.j0 k true a0_0 l0_1 l0_2 a0_3) else ((impl_in.f a0_3 0 1000000).bind fun t124 => (impl_DeskOk.j0 k (!t124) a0_0 l0_1 l0_2 a0_3))) = some r := by rw [if_pos rfl] at H; exact H
    clear H
    have H := H1
    clear H1
    by_cases c8 : (l0_2.length : Int) > 40
    ·rw [if_pos c8] at H
     have c8b0 : decide (40 < (l0_2.length : Int)) = true := decide_eq_true c8
     have c8b1 : decide (40 < l0_2.length) = true := decide_eq_true (by omega)
     clear c8
     (first | rw [c8b0] | (simp only [i64_w, i32_w]; rw [c8b0]) | (rw [c8b2]; try simp only [Bool.not_false, Bool.not_true]) | skip)
     have H' := Aside0.mk H
     clear H
     have hcz9_0 : w3.cell? ⟨gb121, 0, none⟩ = some (.int .i64 a0_0) := (blk_cell BK121.out 0).trans rfl
     have hcz9_1 : w3.cell? ⟨gb121, 1, none⟩ = some (.slice A0_1 l0_1.length c0_1) := (blk_cell BK121.out 1).trans rfl
     have hcz9_2 : w3.cell? ⟨gb121, 2, none⟩ = some (.slice A0_2 l0_2.length c0_2) := (blk_cell BK121.out 2).trans rfl
     have hcz9_3 : w3.cell? ⟨gb121, 3, none⟩ = some (.int .i64 a0_3) := (blk_cell BK121.out 3).trans rfl
     have hfz9_0 := blk_frozen BK121.out 0
     have hfz9_1 := blk_frozen BK121.out 1
     have hfz9_2 := blk_frozen BK121.out 2
     have hfz9_3 := blk_frozen BK121.out 3
     go_wp2_with (first | ((with_reducible refine gate_callee (f := 43) rfl ?_); refine goesL_ (some 13) rfl rfl Try.func43 (by kernel_rfl) rfl #[.int .i64 a0_0, .int .i64 0, .int .i64 1000000000] rfl (by (try simp only [List.map_toArray, List.map_cons, List.map_nil]); first | done | rfl | (simp only [List.length_drop, List.length_take]; rfl)) ?_; (with_reducible refine (impl_in.calls a0_0 0 1000000000 true _ A4.out).mono ?_); rintro e w' ⟨rfl, ⟨nd, rfl⟩⟩; refine ⟨_, rfl, ?_⟩) | (go_at_call 43; (with_reducible refine (impl_in.calls (l0_1.length : Int) 1 12 true _ A6.out).mono ?_); rintro e w' ⟨rfl, ⟨nd, rfl⟩⟩))
     go_meet
     case rel => exact ⟨_, (true), (by first | rfl | (simp; done) | (simp [*]; done)), H', ⟨by first | omega | exact Nat.le_refl _⟩, ⟨by (with_reducible repeat (first | refine blk_drewN ?_ _ | refine blk_drew ?_ | refine blk_alloc ?_ _)); exact BK121.out⟩, ⟨belowNow⟩⟩
    ·rw [if_neg c8] at H
     have c8b0 : decide (40 < (l0_2.length : Int)) = false := decide_eq_false c8
     have c8b1 : decide (40 < l0_2.length) = false := decide_eq_false (by omega)
     clear c8
     (first | rw [c8b0] | (simp only [i64_w, i32_w]; rw [c8b0]) | (rw [c8b2]; try simp only [Bool.not_false, Bool.not_true]) | skip)
     replace H := Option.bind_eq_some_iff.mp H
     obtain ⟨t124, A100, H⟩ := H
     replace H : (impl_DeskOk.j0 k (!t124) a0_0 l0_1 l0_2 a0_3) = some r := H
     have A10 := Aside0.mk A100
     clear A100
     have H' := Aside0.mk H
     clear H
     have hcz11_0 : w3.cell? ⟨gb121, 0, none⟩ = some (.int .i64 a0_0) := (blk_cell BK121.out 0).trans rfl
     have hcz11_1 : w3.cell? ⟨gb121, 1, none⟩ = some (.slice A0_1 l0_1.length c0_1) := (blk_cell BK121.out 1).trans rfl
     have hcz11_2 : w3.cell? ⟨gb121, 2, none⟩ = some (.slice A0_2 l0_2.length c0_2) := (blk_cell BK121.out 2).trans rfl
     have hcz11_3 : w3.cell? ⟨gb121, 3, none⟩ = some (.int .i64 a0_3) := (blk_cell BK121.out 3).trans rfl
     have hfz11_0 := blk_frozen BK121.out 0
     have hfz11_1 := blk_frozen BK121.out 1
     have hfz11_2 := blk_frozen BK121.out 2
     have hfz11_3 := blk_frozen BK121.out 3
     go_wp2_with (first | ((with_reducible refine gate_callee (f := 43) rfl ?_); refine goesL_ (some 13) rfl rfl Try.func43 (by kernel_rfl) rfl #[.int .i64 a0_0, .int .i64 0, .int .i64 1000000000] rfl (by (try simp only [List.map_toArray, List.map_cons, List.map_nil]); first | done | rfl | (simp only [List.length_drop, List.length_take]; rfl)) ?_; (with_reducible refine (impl_in.calls a0_0 0 1000000000 true _ A4.out).mono ?_); rintro e w' ⟨rfl, ⟨nd, rfl⟩⟩; refine ⟨_, rfl, ?_⟩) | (go_at_call 43; (with_reducible refine (impl_in.calls (l0_1.length : Int) 1 12 true _ A6.out).mono ?_); rintro e w' ⟨rfl, ⟨nd, rfl⟩⟩) | (go_at_call 43; (with_reducible refine (impl_in.calls a0_3 0 1000000 t124 _ A10.out).mono ?_); rintro e w' ⟨rfl, ⟨nd, rfl⟩⟩))
     go_meet
     case rel => exact ⟨_, (!t124), (by first | rfl | (simp; done) | (simp [*]; done)), H', ⟨by first | omega | exact Nat.le_refl _⟩, ⟨by (with_reducible repeat (first | refine blk_drewN ?_ _ | refine blk_drew ?_ | refine blk_alloc ?_ _)); exact BK121.out⟩, ⟨belowNow⟩⟩
   ·replace c7 := Bool.eq_false_iff.mpr c7
    subst c7
    have H1 : (impl_DeskOk.j0 k true a0_0 l0_1 l0_2 a0_3) = some r := by rw [if_neg (show ¬ (false = true) by decide)] at H; exact H
    clear H
    have H := H1
    clear H1
    have H' := Aside0.mk H
    clear H
    have hcz12_0 : w3.cell? ⟨gb121, 0, none⟩ = some (.int .i64 a0_0) := (blk_cell BK121.out 0).trans rfl
    have hcz12_1 : w3.cell? ⟨gb121, 1, none⟩ = some (.slice A0_1 l0_1.length c0_1) := (blk_cell BK121.out 1).trans rfl
    have hcz12_2 : w3.cell? ⟨gb121, 2, none⟩ = some (.slice A0_2 l0_2.length c0_2) := (blk_cell BK121.out 2).trans rfl
    have hcz12_3 : w3.cell? ⟨gb121, 3, none⟩ = some (.int .i64 a0_3) := (blk_cell BK121.out 3).trans rfl
    have hfz12_0 := blk_frozen BK121.out 0
    have hfz12_1 := blk_frozen BK121.out 1
    have hfz12_2 := blk_frozen BK121.out 2
    have hfz12_3 := blk_frozen BK121.out 3
    go_wp2_with (first | ((with_reducible refine gate_callee (f := 43) rfl ?_); refine goesL_ (some 13) rfl rfl Try.func43 (by kernel_rfl) rfl #[.int .i64 a0_0, .int .i64 0, .int .i64 1000000000] rfl (by (try simp only [List.map_toArray, List.map_cons, List.map_nil]); first | done | rfl | (simp only [List.length_drop, List.length_take]; rfl)) ?_; (with_reducible refine (impl_in.calls a0_0 0 1000000000 true _ A4.out).mono ?_); rintro e w' ⟨rfl, ⟨nd, rfl⟩⟩; refine ⟨_, rfl, ?_⟩) | (go_at_call 43; (with_reducible refine (impl_in.calls (l0_1.length : Int) 1 12 false _ A6.out).mono ?_); rintro e w' ⟨rfl, ⟨nd, rfl⟩⟩))
    go_meet
    case rel => exact ⟨_, (true), (by first | rfl | (simp; done) | (simp [*]; done)), H', ⟨by first | omega | exact Nat.le_refl _⟩, ⟨by (with_reducible repeat (first | refine blk_drewN ?_ _ | refine blk_drew ?_ | refine blk_alloc ?_ _)); exact BK121.out⟩, ⟨belowNow⟩⟩
  ·replace c5 := Bool.eq_false_iff.mpr c5
   subst c5
   have H1 : (impl_DeskOk.j0 k true a0_0 l0_1 l0_2 a0_3) = some r := by rw [if_neg (show ¬ (false = true) by decide)] at H; exact H
   clear H
   have H := H1
   clear H1
   have H' := Aside0.mk H
   clear H
   have hcz13_0 : w3.cell? ⟨gb121, 0, none⟩ = some (.int .i64 a0_0) := (blk_cell BK121.out 0).trans rfl
   have hcz13_1 : w3.cell? ⟨gb121, 1, none⟩ = some (.slice A0_1 l0_1.length c0_1) := (blk_cell BK121.out 1).trans rfl
   have hcz13_2 : w3.cell? ⟨gb121, 2, none⟩ = some (.slice A0_2 l0_2.length c0_2) := (blk_cell BK121.out 2).trans rfl
   have hcz13_3 : w3.cell? ⟨gb121, 3, none⟩ = some (.int .i64 a0_3) := (blk_cell BK121.out 3).trans rfl
   have hfz13_0 := blk_frozen BK121.out 0
   have hfz13_1 := blk_frozen BK121.out 1
   have hfz13_2 := blk_frozen BK121.out 2
   have hfz13_3 := blk_frozen BK121.out 3
   go_wp2_with (first | ((with_reducible refine gate_callee (f := 43) rfl ?_); refine goesL_ (some 13) rfl rfl Try.func43 (by kernel_rfl) rfl #[.int .i64 a0_0, .int .i64 0, .int .i64 1000000000] rfl (by (try simp only [List.map_toArray, List.map_cons, List.map_nil]); first | done | rfl | (simp only [List.length_drop, List.length_take]; rfl)) ?_; (with_reducible refine (impl_in.calls a0_0 0 1000000000 false _ A4.out).mono ?_); rintro e w' ⟨rfl, ⟨nd, rfl⟩⟩; refine ⟨_, rfl, ?_⟩))
   go_meet
   case rel => exact ⟨_, (true), (by first | rfl | (simp; done) | (simp [*]; done)), H', ⟨by first | omega | exact Nat.le_refl _⟩, ⟨by (with_reducible repeat (first | refine blk_drewN ?_ _ | refine blk_drew ?_ | refine blk_alloc ?_ _)); exact BK121.out⟩, ⟨belowNow⟩⟩
 case rest =>
  clear HC2
  try clear c1
  try clear p2
  try clear c4
  try clear c5
  try clear c7
  try clear c8
  try clear c8b0
  try clear c8b1
  try clear c12
  try clear hcz11_0
  try clear hcz11_1
  try clear hcz11_2
  try clear hcz11_3
  try clear hcz12_0
  try clear hcz12_1
  try clear hcz12_2
  try clear hcz12_3
  try clear hcz13_0
  try clear hcz13_1
  try clear hcz13_2
  try clear hcz13_3
  try clear hcz9_0
  try clear hcz9_1
  try clear hcz9_2
  try clear hcz9_3
  try clear hfz11_0
  try clear hfz11_1
  try clear hfz11_2
  try clear hfz11_3
  try clear hfz12_0
  try clear hfz12_1
  try clear hfz12_2
  try clear hfz12_3
  try clear hfz13_0
  try clear hfz13_1
  try clear hfz13_2
  try clear hfz13_3
  try clear hfz9_0
  try clear hfz9_1
  try clear hfz9_2
  try clear hfz9_3
  obtain ⟨kq, x33_1, rfl, HA, HJ1, BK121, HB⟩ := hcut
  cases kq with
  | zero => exact absurd HA.out (by simp [impl_DeskOk.j0])
  | succ kj1 =>
   have H := HA.out
   clear HA
   simp only [impl_DeskOk.j0] at H
   by_cases c14 : x33_1 = true
   ·subst c14
    have H1 : (some false) = some r := by rw [if_pos rfl] at H; exact H
    clear H
    have H := H1
    clear H1
    obtain rfl := Option.some.inj H
    go_wp2
    go_ret
    exact ⟨by first | rfl | (simp [errW_none, errW_some] <;> rfl) | (simp [*, errW_none, errW_some] <;> rfl), belowNow⟩
   ·replace c14 := Bool.eq_false_iff.mpr c14
    subst c14
    have H1 : (impl_DeskOk.l0 kj1 (([] : List Int)) l0_1 (l0_1.length : Int) 0 a0_0 l0_1 l0_2 a0_3) = some r := by rw [if_neg (show ¬ (false = true) by decide)] at H; exact H
    clear H
    have H := H1
    clear H1
    obtain ⟨y125, hy125⟩ : ∃ y_ : List Int, y_ = (([] : List Int)) := ⟨_, rfl⟩
    replace H : (impl_DeskOk.l0 kj1 y125 l0_1 (l0_1.length : Int) 0 a0_0 l0_1 l0_2 a0_3) = some r := by first | (rw [hy125]; with_reducible exact H) | (have H2_ := (Option.bind_some _ _).symm.trans H; rw [hy125]; with_reducible exact H2_) | (have H2_ := (Option.bind_some _ _).symm.trans H; with_reducible exact H2_) | with_reducible exact H | (rw [hy125]; exact H) | exact H
    have Ny125 := Aside0.mk hy125
    clear hy125
    have H' := Aside0.mk H
    clear H
    go_wp2_with (first | ((with_reducible refine gate_dst (N := 34) rfl ?_); (try (refine gate_guard (by rfl) ?_; dsimp only)); refine Ms.new_event (T := 75) ?hg ?ho ?_; (case hg => rfl); (case ho => rfl); intro v126 w15 ho16 hb; rw [← Ny125.out] at ho16; have n0_ := Aside0.mk (Ms.R_lower ho16 (below_size belowNow)); have n1_ := Aside0.mk (blkStep (g := gb121) hb); have n2_ := Aside0.mk (below_step belowNow hb); clear BK121; clear HB; have HO127 := n0_; have BK121 := n1_; have HB := n2_; clear n0_ n1_ n2_; clear hb ho16; have hcz17_0 : w15.cell? ⟨gb121, 0, none⟩ = some (.int .i64 a0_0) := (blk_cell BK121.out 0).trans rfl; have hcz17_1 : w15.cell? ⟨gb121, 1, none⟩ = some (.slice A0_1 l0_1.length c0_1) := (blk_cell BK121.out 1).trans rfl; have hcz17_2 : w15.cell? ⟨gb121, 2, none⟩ = some (.slice A0_2 l0_2.length c0_2) := (blk_cell BK121.out 2).trans rfl; have hcz17_3 : w15.cell? ⟨gb121, 3, none⟩ = some (.int .i64 a0_3) := (blk_cell BK121.out 3).trans rfl; have hfz17_0 := blk_frozen BK121.out 0; have hfz17_1 := blk_frozen BK121.out 1; have hfz17_2 := blk_frozen BK121.out 2; have hfz17_3 := blk_frozen BK121.out 3))
    go_loopg [38] kj1 (fun kq v38 w' => ∃ (x3_2 : List Int) (x38_2 : Int), v38 = .int .i64 x38_2 ∧ Aside0 (impl_DeskOk.l0 kq x3_2 l0_1 (l0_1.length : Int) x38_2 a0_0 l0_1 l0_2 a0_3 = some r) ∧ Aside0 (kq ≤ kj1) ∧ Aside0 (Ms.R (Kd.int .i64) 3 w' w.heap.size (fun _ => True) v126 x3_2) ∧ Aside0 (w'.heap[gb121]? = some (.cells #[.int .i64 a0_0, (.slice A0_1 l0_1.length c0_1), (.slice A0_2 l0_2.length c0_2), .int .i64 a0_3] 31 (0, 0))) ∧ Aside0 (Below w.heap.size w w'))
    case atStart => exact ⟨(y125), (0), (by first | rfl | (simp; done) | (simp [*]; done)), H', ⟨Nat.le_refl _⟩, ⟨by (with_reducible repeat (first | apply Ms.R_alloc | apply Ms.R_drewN | apply Ms.R_drew)); exact HO127.out⟩, ⟨by (with_reducible repeat (first | refine blk_drewN ?_ _ | refine blk_drew ?_ | refine blk_alloc ?_ _)); exact BK121.out⟩, ⟨belowNow⟩⟩
    case round =>
     clear H'
     try clear c1
     try clear p2
     try clear c4
     try clear c5
     try clear c7
     try clear c8
     try clear c8b0
     try clear c8b1
     try clear c12
     try clear c14
     try clear hcz11_0
     try clear hcz11_1
     try clear hcz11_2
     try clear hcz11_3
     try clear hcz12_0
     try clear hcz12_1
     try clear hcz12_2
     try clear hcz12_3
     try clear hcz13_0
     try clear hcz13_1
     try clear hcz13_2
     try clear hcz13_3
     try clear hcz17_0
     try clear hcz17_1
     try clear hcz17_2
     try clear hcz17_3
     try clear hcz9_0
     try clear hcz9_1
     try clear hcz9_2
     try clear hcz9_3
     try clear hfz11_0
     try clear hfz11_1
     try clear hfz11_2
     try clear hfz11_3
     try clear hfz12_0
     try clear hfz12_1
     try clear hfz12_2
     try clear hfz12_3
     try clear hfz13_0
     try clear hfz13_1
     try clear hfz13_2
     try clear hfz13_3
     try clear hfz17_0
     try clear hfz17_1
     try clear hfz17_2
     try clear hfz17_3
     try clear hfz9_0
     try clear hfz9_1
     try clear hfz9_2
     try clear hfz9_3
     try clear p2
     obtain ⟨x3_2, x38_2, rfl, HA, HK2, HO_3, BK121, HB⟩ := hrel
     cases gk with
     | zero => exact absurd HA.out (by simp [impl_DeskOk.l0])
     | succ k2 =>
      have H := HA.out
      clear HA
      simp only [impl_DeskOk.l0] at H
      by_cases c18 : x38_2 < (l0_1.length : Int)
      ·rw [if_pos c18] at H
       have c18b0 : decide (x38_2 < (l0_1.length : Int)) = true := decide_eq_true c18
       clear c18
       by_cases c19 : 0 ≤ x38_2
       ·rw [if_pos c19] at H
        have c19b0 : decide (0 ≤ x38_2) = true := decide_eq_true c19
        clear c19
        by_cases c20 : x38_2 < (l0_1.length : Int)
        ·rw [if_pos c20] at H
         have c20b0 : decide (x38_2 < (l0_1.length : Int)) = true := decide_eq_true c20
         clear c20
         replace H := Option.bind_eq_some_iff.mp H
         obtain ⟨t130, A210, H⟩ := H
         replace H : (if t130 = true then ((impl_in.f ((rd_T41 l0_1 x38_2).f1) (-1) 1000000000).bind fun t131 => (if t131 = true then ((impl_in.f ((rd_T41 l0_1 x38_2).f2) 0 a0_0).bind fun t132 => (if t132 = true then (if ((rd_T41 l0_1 x38_2).f1) ≥ 0 then ((runtime_boundsError_RuntimeError.f x3_2 ((rd_T41 l0_1 x38_2).f1)).bind fun t133 => (if t133 = true then (some false) else (if x3_2.length < 17592186044416 then (impl_DeskOk.l0 k2 (x3_2 ++ [(rd_T41 l0_1 x38_2).f1]) l0_1 (l0_1.length : Int) (wrap64 (x38_2 + 1)) a0_0 l0_1 l0_2 a0_3) else (none)))) else (if x3_2.length < 17592186044416 then (impl_DeskOk.l0 k2 (x3_2 ++ [(rd_T41 l0_1 x38_2).f1]) l0_1 (l0_1.length : Int) (wrap64 (x38_2 + 1)) a0_0 l0_1 l0_2 a0_3) else (none))) else (some false))) else (some false))) else (some false)) = some r := H
         have A21 := Aside0.mk A210
         clear A210
         by_cases c22 : t130 = true
         ·subst c22
          have H1 : ((impl_in.f ((rd_T41 l0_1 x38_2).f1) (-1) 1000000000).bind fun t131 => (if t131 = true then ((impl_in.f ((rd_T41 l0_1 x38_2).f2) 0 a0_0).bind fun t132 => (if t132 = true then (if ((rd_T41 l0_1 x38_2).f1) ≥ 0 then ((runtime_boundsError_RuntimeError.f x3_2 ((rd_T41 l0_1 x38_2).f1)).bind fun t133 => (if t133 = true then (some false) else (if x3_2.length < 17592186044416 then (impl_DeskOk.l0 k2 (x3_2 ++ [(rd_T41 l0_1 x38_2).f1]) l0_1 (l0_1.length : Int) (wrap64 (x38_2 + 1)) a0_0 l0_1 l0_2 a0_3) else (none)))) else (if x3_2.length < 17592186044416 then (impl_DeskOk.l0 k2 (x3_2 ++ [(rd_T41 l0_1 x38_2).f1]) l0_1 (l0_1.length : Int) (wrap64 (x38_2 + 1)) a0_0 l0_1 l0_2 a0_3) else (none))) else (some false))) else (some false))) = some r := by rw [if_pos rfl] at H; exact H
          clear H
          have H := H1
          clear H1
          replace H := Option.bind_eq_some_iff.mp H
          obtain ⟨t131, A230, H⟩ := H
          replace H : (if t131 = true then ((impl_in.f ((rd_T41 l0_1 x38_2).f2) 0 a0_0).bind fun t132 => (if t132 = true then (if ((rd_T41 l0_1 x38_2).f1) ≥ 0 then ((runtime_boundsError_RuntimeError.f x3_2 ((rd_T41 l0_1 x38_2).f1)).bind fun t133 => (if t133 = true then (some false) else (if x3_2.length < 17592186044416 then (impl_DeskOk.l0 k2 (x3_2 ++ [(rd_T41 l0_1 x38_2).f1]) l0_1 (l0_1.length : Int) (wrap64 (x38_2 + 1)) a0_0 l0_1 l0_2 a0_3) else (none)))) else (if x3_2.length < 17592186044416 then (impl_DeskOk.l0 k2 (x3_2 ++ [(rd_T41 l0_1 x38_2).f1]) l0_1 (l0_1.length : Int) (wrap64 (x38_2 + 1)) a0_0 l0_1 l0_2 a0_3) else (none))) else (some false))) else (some false)) = some r := H
          have A23 := Aside0.mk A230
          clear A230
          by_cases c24 : t131 = true
          ·subst c24
           have H1 : ((impl_in.f ((rd_T41 l0_1 x38_2).f2) 0 a0_0).bind fun t132 => (if t132 = true then (if ((rd_T41 l0_1 x38_2).f1) ≥ 0 then ((runtime_boundsError_RuntimeError.f x3_2 ((rd_T41 l0_1 x38_2).f1)).bind fun t133 => (if t133 = true then (some false) else (if x3_2.length < 17592186044416 then (impl_DeskOk.l0 k2 (x3_2 ++ [(rd_T41 l0_1 x38_2).f1]) l0_1 (l0_1.length : Int) (wrap64 (x38_2 + 1)) a0_0 l0_1 l0_2 a0_3) else (none)))) else (if x3_2.length < 17592186044416 then (impl_DeskOk.l0 k2 (x3_2 ++ [(rd_T41 l0_1 x38_2).f1]) l0_1 (l0_1.length : Int) (wrap64 (x38_2 + 1)) a0_0 l0_1 l0_2 a0_3) else (none))) else (some false))) = some r := by rw [if_pos rfl] at H; exact H
           clear H
           have H := H1
           clear H1
           replace H := Option.bind_eq_some_iff.mp H
           obtain ⟨t132, A250, H⟩ := H
           replace H : (if t132 = true then (if ((rd_T41 l0_1 x38_2).f1) ≥ 0 then ((runtime_boundsError_RuntimeError.f x3_2 ((rd_T41 l0_1 x38_2).f1)).bind fun t133 => (if t133 = true then (some false) else (if x3_2.length < 17592186044416 then (impl_DeskOk.l0 k2 (x3_2 ++ [(rd_T41 l0_1 x38_2).f1]) l0_1 (l0_1.length : Int) (wrap64 (x38_2 + 1)) a0_0 l0_1 l0_2 a0_3) else (none)))) else (if x3_2.length < 17592186044416 then (impl_DeskOk.l0 k2 (x3_2 ++ [(rd_T41 l0_1 x38_2).f1]) l0_1 (l0_1.length : Int) (wrap64 (x38_2 + 1)) a0_0 l0_1 l0_2 a0_3) else (none))) else (some false)) = some r := H
           have A25 := Aside0.mk A250
           clear A250
           by_cases c26 : t132 = true
           ·subst c26
            have H1 : (if ((rd_T41 l0_1 x38_2).f1) ≥ 0 then ((runtime_boundsError_RuntimeError.f x3_2 ((rd_T41 l0_1 x38_2).f1)).bind fun t133 => (if t133 = true then (some false) else (if x3_2.length < 17592186044416 then (impl_DeskOk.l0 k2 (x3_2 ++ [(rd_T41 l0_1 x38_2).f1]) l0_1 (l0_1.length : Int) (wrap64 (x38_2 + 1)) a0_0 l0_1 l0_2 a0_3) else (none)))) else (if x3_2.length < 17592186044416 then (impl_DeskOk.l0 k2 (x3_2 ++ [(rd_T41 l0_1 x38_2).f1]) l0_1 (l0_1.length : Int) (wrap64 (x38_2 + 1)) a0_0 l0_1 l0_2 a0_3) else (none))) = some r := by rw [if_pos rfl] at H; exact H
            clear H
            have H := H1
            clear H1
            by_cases c27 : ((rd_T41 l0_1 x38_2).f1) ≥ 0
            ·rw [if_pos c27] at H
             have c27b0 : decide (0 ≤ ((rd_T41 l0_1 x38_2).f1)) = true := decide_eq_true c27
             clear c27
             replace H := Option.bind_eq_some_iff.mp H
             obtain ⟨t133, A280, H⟩ := H
             replace H : (if t133 = true then (some false) else (if x3_2.length < 17592186044416 then (impl_DeskOk.l0 k2 (x3_2 ++ [(rd_T41 l0_1 x38_2).f1]) l0_1 (l0_1.length : Int) (wrap64 (x38_2 + 1)) a0_0 l0_1 l0_2 a0_3) else (none))) = some r := H
             have A28 := Aside0.mk A280
             clear A280
             by_cases c29 : t133 = true
             ·subst c29
              have H1 : (some false) = some r := by rw [if_pos rfl] at H; exact H
              clear H
              have H := H1
              clear H1
              obtain rfl := Option.some.inj H
              have p128 : 0 ≤ (x38_2 : Int) := of_decide_eq_true (by first | (with_reducible assumption) | assumption)
              have q128 : x38_2 < (l0_1.length : Int) := of_decide_eq_true (by first | (with_reducible assumption) | assumption)
              obtain ⟨ad128, e128, hx128_0, hx128_1, hx128_2⟩ := at_T41 HR0_1.out x38_2 p128 q128
              cases e128
              replace hx128_0 := (HB.out.cell (World.block_lt_of_cell? w _ hx128_0)).trans hx128_0
              replace hx128_1 := (HB.out.cell (World.block_lt_of_cell? w _ hx128_1)).trans hx128_1
              replace hx128_2 := (HB.out.cell (World.block_lt_of_cell? w _ hx128_2)).trans hx128_2
              replace p128 := eq_true p128
              replace q128 := eq_true q128
              go_wp2_with (first | ((with_reducible refine gate_dst (N := 5) rfl ?_); (try (refine gate_guard (by rfl) ?_; dsimp only)); refine box_event ?hg (N := 5) ?hd (cs := #[.int .i64 0, .int .i64 0, .int .i64 0]) (t := 41) ?hr ?_; (case hd => rfl); (case hg => rfl); (case hr => first | (go_simp; done) | (go_simp; rfl)); intro gb129 hg w30 hbox hb; have n0_ := Aside0.mk (Ms.R_below (by (with_reducible repeat (first | apply Ms.R_alloc | apply Ms.R_drewN | apply Ms.R_drew)); exact HO_3.out) hb); have n1_ := Aside0.mk (blkStep (g := gb121) hb); have n2_ := Aside0.mk (below_step belowNow hb); have n3_ := Aside0.mk (hbox); have n4_ := Aside0.mk ((by rw [hg]; exact (below_size belowNow) : w.heap.size ≤ gb129)); have n5_ := n4_; have n6_ := Aside0.mk ((by rw [hg]; exact Nat.ne_of_lt (blkLt (g := gb121)) : gb121 ≠ gb129)); have n7_ := Aside0.mk ((by rw [hg]; exact Nat.ne_of_gt (blkLt (g := gb121)) : gb129 ≠ gb121)); clear HO_3; clear BK121; clear HB; have HO_3 := n0_; have BK121 := n1_; have HB := n2_; have BK129 := n3_; have GW129 := n4_; have GE129 := n5_; have NB121_129 := n6_; have NB129_121 := n7_; clear n0_ n1_ n2_ n3_ n4_ n5_ n6_ n7_; clear hb hbox hg; have hnb31 := NB129_121.out; have hnc31 := NB121_129.out; have hcz32_0 : w30.cell? ⟨gb129, 0, none⟩ = some (.int .i64 0) := (blk_cell BK129.out 0).trans rfl; have hcz32_1 : w30.cell? ⟨gb129, 1, none⟩ = some (.int .i64 0) := (blk_cell BK129.out 1).trans rfl; have hcz32_2 : w30.cell? ⟨gb129, 2, none⟩ = some (.int .i64 0) := (blk_cell BK129.out 2).trans rfl; have hfz32_0 := blk_frozen BK129.out 0; have hfz32_1 := blk_frozen BK129.out 1; have hfz32_2 := blk_frozen BK129.out 2) | ((with_reducible refine gate_callee (f := 43) rfl ?_); refine goesL_ (some 44) rfl rfl Try.func43 (by kernel_rfl) rfl #[.int .i64 ((rd_T41 l0_1 x38_2).f0), .int .i64 0, .int .i64 255] rfl (by (try simp only [List.map_toArray, List.map_cons, List.map_nil]); first | done | rfl | (simp only [List.length_drop, List.length_take]; rfl)) ?_; (with_reducible refine (impl_in.calls ((rd_T41 l0_1 x38_2).f0) 0 255 true _ A21.out).mono ?_); rintro e w' ⟨rfl, ⟨nd, rfl⟩⟩; refine ⟨_, rfl, ?_⟩) | (go_at_call 43; (with_reducible refine (impl_in.calls ((rd_T41 l0_1 x38_2).f1) (-1) 1000000000 true _ A23.out).mono ?_); rintro e w' ⟨rfl, ⟨nd, rfl⟩⟩; have hcz33_0 : w30.cell? ⟨gb121, 0, none⟩ = some (.int .i64 a0_0) := (blk_cell BK121.out 0).trans rfl; have hcz33_1 : w30.cell? ⟨gb121, 1, none⟩ = some (.slice (some ad128) l0_1.length c0_1) := (blk_cell BK121.out 1).trans rfl; have hcz33_2 : w30.cell? ⟨gb121, 2, none⟩ = some (.slice A0_2 l0_2.length c0_2) := (blk_cell BK121.out 2).trans rfl; have hcz33_3 : w30.cell? ⟨gb121, 3, none⟩ = some (.int .i64 a0_3) := (blk_cell BK121.out 3).trans rfl; have hfz33_0 := blk_frozen BK121.out 0; have hfz33_1 := blk_frozen BK121.out 1; have hfz33_2 := blk_frozen BK121.out 2; have hfz33_3 := blk_frozen BK121.out 3) | (go_at_call 43; (with_reducible refine (impl_in.calls ((rd_T41 l0_1 x38_2).f2) 0 a0_0 true _ A25.out).mono ?_); rintro e w' ⟨rfl, ⟨nd, rfl⟩⟩; obtain ⟨Ao34, eo34⟩ := Ms.R_map HO_3.out; subst eo34) | ((with_reducible refine gate_dst (N := 68) rfl ?_); (try (refine gate_guard (by rfl) ?_; dsimp only)); refine Ms.look_event (T := 75) (d := Kd.int .i64) (e := 3) (base := w.heap.size) (ok := fun _ => True) (l := x3_2) ((rd_T41 l0_1 x38_2).f1) true (by rfl) rfl (Sets.KeyKind.int Try.underlying3) Try.underlying75 (fun w => by kernel_rfl) rfl (by first | rfl | (go_simp; done) | (go_simp; rfl)) Ms.now A28.out ?_) | ((with_reducible refine gate_dst (N := 90) rfl ?_); (try (refine gate_guard (by rfl) ?_; dsimp only)); refine Ms.look_event (T := 75) (d := Kd.int .i64) (e := 3) (base := w.heap.size) (ok := fun _ => True) (l := x3_2) ((rd_T41 l0_1 x38_2).f1) true (by rfl) rfl (Sets.KeyKind.int Try.underlying3) Try.underlying75 (fun w => by kernel_rfl) rfl (by first | rfl | (go_simp; done) | (go_simp; rfl)) Ms.now A28.out ?_))
              go_ret
              exact ⟨by first | rfl | (simp [errW_none, errW_some] <;> rfl) | (simp [*, errW_none, errW_some] <;> rfl), belowNow⟩
             ·replace c29 := Bool.eq_false_iff.mpr c29
              subst c29
              have H1 : (if x3_2.length < 17592186044416 then (impl_DeskOk.l0 k2 (x3_2 ++ [(rd_T41 l0_1 x38_2).f1]) l0_1 (l0_1.length : Int) (wrap64 (x38_2 + 1)) a0_0 l0_1 l0_2 a0_3) else (none)) = some r := by rw [if_neg (show ¬ (false = true) by decide)] at H; exact H
              clear H
              have H := H1
              clear H1
              by_cases c35 : x3_2.length < 17592186044416
              ·rw [if_pos c35] at H
               have LMc35 := Aside0.mk c35
               clear c35
               obtain ⟨y134, hy134⟩ : ∃ y_ : List Int, y_ = (x3_2 ++ [(rd_T41 l0_1 x38_2).f1]) := ⟨_, rfl⟩
               replace H : (impl_DeskOk.l0 k2 y134 l0_1 (l0_1.length : Int) (wrap64 (x38_2 + 1)) a0_0 l0_1 l0_2 a0_3) = some r := by first | (rw [hy134]; with_reducible exact H) | (have H2_ := (Option.bind_some _ _).symm.trans H; rw [hy134]; with_reducible exact H2_) | (have H2_ := (Option.bind_some _ _).symm.trans H; with_reducible exact H2_) | with_reducible exact H | (rw [hy134]; exact H) | exact H
               have Ny134 := Aside0.mk hy134
               clear hy134
               have H' := Aside0.mk H
               clear H
               have p128 : 0 ≤ (x38_2 : Int) := of_decide_eq_true (by first | (with_reducible assumption) | assumption)
               have q128 : x38_2 < (l0_1.length : Int) := of_decide_eq_true (by first | (with_reducible assumption) | assumption)
               obtain ⟨ad128, e128, hx128_0, hx128_1, hx128_2⟩ := at_T41 HR0_1.out x38_2 p128 q128
               cases e128
               replace hx128_0 := (HB.out.cell (World.block_lt_of_cell? w _ hx128_0)).trans hx128_0
               replace hx128_1 := (HB.out.cell (World.block_lt_of_cell? w _ hx128_1)).trans hx128_1
               replace hx128_2 := (HB.out.cell (World.block_lt_of_cell? w _ hx128_2)).trans hx128_2
               replace p128 := eq_true p128
               replace q128 := eq_true q128
               go_wp2_with (first | ((with_reducible refine gate_dst (N := 5) rfl ?_); (try (refine gate_guard (by rfl) ?_; dsimp only)); refine box_event ?hg (N := 5) ?hd (cs := #[.int .i64 0, .int .i64 0, .int .i64 0]) (t := 41) ?hr ?_; (case hd => rfl); (case hg => rfl); (case hr => first | (go_simp; done) | (go_simp; rfl)); intro gb129 hg w36 hbox hb; have n0_ := Aside0.mk (Ms.R_below (by (with_reducible repeat (first | apply Ms.R_alloc | apply Ms.R_drewN | apply Ms.R_drew)); exact HO_3.out) hb); have n1_ := Aside0.mk (blkStep (g := gb121) hb); have n2_ := Aside0.mk (below_step belowNow hb); have n3_ := Aside0.mk (hbox); have n4_ := Aside0.mk ((by rw [hg]; exact (below_size belowNow) : w.heap.size ≤ gb129)); have n5_ := n4_; have n6_ := Aside0.mk ((by rw [hg]; exact Nat.ne_of_lt (blkLt (g := gb121)) : gb121 ≠ gb129)); have n7_ := Aside0.mk ((by rw [hg]; exact Nat.ne_of_gt (blkLt (g := gb121)) : gb129 ≠ gb121)); clear HO_3; clear BK121; clear HB; have HO_3 := n0_; have BK121 := n1_; have HB := n2_; have BK129 := n3_; have GW129 := n4_; have GE129 := n5_; have NB121_129 := n6_; have NB129_121 := n7_; clear n0_ n1_ n2_ n3_ n4_ n5_ n6_ n7_; clear hb hbox hg; have hnb37 := NB129_121.out; have hnc37 := NB121_129.out; have hcz38_0 : w36.cell? ⟨gb129, 0, none⟩ = some (.int .i64 0) := (blk_cell BK129.out 0).trans rfl; have hcz38_1 : w36.cell? ⟨gb129, 1, none⟩ = some (.int .i64 0) := (blk_cell BK129.out 1).trans rfl; have hcz38_2 : w36.cell? ⟨gb129, 2, none⟩ = some (.int .i64 0) := (blk_cell BK129.out 2).trans rfl; have hfz38_0 := blk_frozen BK129.out 0; have hfz38_1 := blk_frozen BK129.out 1; have hfz38_2 := blk_frozen BK129.out 2) | ((with_reducible refine gate_callee (f := 43) rfl ?_); refine goesL_ (some 44) rfl rfl Try.func43 (by kernel_rfl) rfl #[.int .i64 ((rd_T41 l0_1 x38_2).f0), .int .i64 0, .int .i64 255] rfl (by (try simp only [List.map_toArray, List.map_cons, List.map_nil]); first | done | rfl | (simp only [List.length_drop, List.length_take]; rfl)) ?_; (with_reducible refine (impl_in.calls ((rd_T41 l0_1 x38_2).f0) 0 255 true _ A21.out).mono ?_); rintro e w' ⟨rfl, ⟨nd, rfl⟩⟩; refine ⟨_, rfl, ?_⟩) | (go_at_call 43; (with_reducible refine (impl_in.calls ((rd_T41 l0_1 x38_2).f1) (-1) 1000000000 true _ A23.out).mono ?_); rintro e w' ⟨rfl, ⟨nd, rfl⟩⟩; have hcz39_0 : w36.cell? ⟨gb121, 0, none⟩ = some (.int .i64 a0_0) := (blk_cell BK121.out 0).trans rfl; have hcz39_1 : w36.cell? ⟨gb121, 1, none⟩ = some (.slice (some ad128) l0_1.length c0_1) := (blk_cell BK121.out 1).trans rfl; have hcz39_2 : w36.cell? ⟨gb121, 2, none⟩ = some (.slice A0_2 l0_2.length c0_2) := (blk_cell BK121.out 2).trans rfl; have hcz39_3 : w36.cell? ⟨gb121, 3, none⟩ = some (.int .i64 a0_3) := (blk_cell BK121.out 3).trans rfl; have hfz39_0 := blk_frozen BK121.out 0; have hfz39_1 := blk_frozen BK121.out 1; have hfz39_2 := blk_frozen BK121.out 2; have hfz39_3 := blk_frozen BK121.out 3) | (go_at_call 43; (with_reducible refine (impl_in.calls ((rd_T41 l0_1 x38_2).f2) 0 a0_0 true _ A25.out).mono ?_); rintro e w' ⟨rfl, ⟨nd, rfl⟩⟩; obtain ⟨Ao40, eo40⟩ := Ms.R_map HO_3.out; subst eo40) | ((with_reducible refine gate_dst (N := 68) rfl ?_); (try (refine gate_guard (by rfl) ?_; dsimp only)); refine Ms.look_event (T := 75) (d := Kd.int .i64) (e := 3) (base := w.heap.size) (ok := fun _ => True) (l := x3_2) ((rd_T41 l0_1 x38_2).f1) false (by rfl) rfl (Sets.KeyKind.int Try.underlying3) Try.underlying75 (fun w => by kernel_rfl) rfl (by first | rfl | (go_simp; done) | (go_simp; rfl)) Ms.now A28.out ?_) | ((with_reducible refine gate_dst (N := 90) rfl ?_); (try (refine gate_guard (by rfl) ?_; dsimp only)); refine Ms.look_event (T := 75) (d := Kd.int .i64) (e := 3) (base := w.heap.size) (ok := fun _ => True) (l := x3_2) ((rd_T41 l0_1 x38_2).f1) false (by rfl) rfl (Sets.KeyKind.int Try.underlying3) Try.underlying75 (fun w => by kernel_rfl) rfl (by first | rfl | (go_simp; done) | (go_simp; rfl)) Ms.now A28.out ?_) | ((with_reducible refine Ms.gate_map (m := 71) rfl ?_); (try (refine gate_guard (by rfl) ?_; dsimp only)); refine Ms.put_event (T := 75) (d := Kd.int .i64) (e := 3) (base := w.heap.size) (ok := fun _ => True) (l := x3_2) (w0 := w) ((rd_T41 l0_1 x38_2).f1) rfl rfl (Sets.KeyKind.int Try.underlying3) Try.underlying75 rfl rfl rfl ?aO ?aB ?_; (case aO => exact Ms.now); (case aB => exact belowNow); intro w41 ho hb hg; rw [← Ny134.out] at ho; have n0_ := Aside0.mk (Ms.blk_grown (g := gb121) (o := .cells #[.int .i64 a0_0, .slice (some ad128) l0_1.length c0_1, .slice A0_2 l0_2.length c0_2, .int .i64 a0_3] 31 (0, 0)) (blkFars) hg); have n1_ := Aside0.mk (Ms.blk_grown (g := gb129) (o := .cells #[.int .i64 ((rd_T41 l0_1 x38_2).f0), .int .i64 ((rd_T41 l0_1 x38_2).f1), .int .i64 ((rd_T41 l0_1 x38_2).f2)] 41 (0, 0)) (by (with_reducible repeat (first | refine blk_drewN ?_ _ | refine blk_drew ?_ | refine blk_alloc ?_ _)); refine blk_put (cs := #[.int .i64 ((rd_T41 l0_1 x38_2).f0), .int .i64 ((rd_T41 l0_1 x38_2).f1), .int .i64 0]) ?_ 2 _ rfl; (with_reducible repeat (first | refine blk_drewN ?_ _ | refine blk_drew ?_ | refine blk_alloc ?_ _)); refine blk_put (cs := #[.int .i64 ((rd_T41 l0_1 x38_2).f0), .int .i64 0, .int .i64 0]) ?_ 1 _ rfl; (with_reducible repeat (first | refine blk_drewN ?_ _ | refine blk_drew ?_ | refine blk_alloc ?_ _)); refine blk_put (cs := #[.int .i64 0, .int .i64 0, .int .i64 0]) ?_ 0 _ rfl; (with_reducible repeat (first | refine blk_drewN ?_ _ | refine blk_drew ?_ | refine blk_alloc ?_ _)); exact BK129.out) hg); have n2_ := Aside0.mk (hb); have n3_ := Aside0.mk (ho); clear BK121; clear BK129; clear HB; clear HO_3; have BK121 := n0_; have BK129 := n1_; have HB := n2_; have HO136 := n3_; clear n0_ n1_ n2_ n3_; clear ho hb hg))
               go_roundg k2
               case measure => have := HJ1.out; have := HK2.out; omega
               case rel => exact ⟨(y134), (wrap64 (x38_2 + 1)), (by first | rfl | (simp; done) | (simp [*]; done)), H', ⟨by have := HJ1.out; have := HK2.out; omega⟩, ⟨by (with_reducible repeat (first | apply Ms.R_alloc | apply Ms.R_drewN | apply Ms.R_drew)); exact HO136.out⟩, ⟨by (with_reducible repeat (first | refine blk_drewN ?_ _ | refine blk_drew ?_ | refine blk_alloc ?_ _)); exact BK121.out⟩, ⟨belowNow⟩⟩
              ·rw [if_neg c35] at H
               exact absurd H (by simp)
            ·rw [if_neg c27] at H
             have c27b0 : decide (0 ≤ ((rd_T41 l0_1 x38_2).f1)) = false := decide_eq_false c27
             clear c27
             by_cases c42 : x3_2.length < 17592186044416
             ·rw [if_pos c42] at H
              have LMc42 := Aside0.mk c42
              clear c42
              obtain ⟨y137, hy137⟩ : ∃ y_ : List Int, y_ = (x3_2 ++ [(rd_T41 l0_1 x38_2).f1]) := ⟨_, rfl⟩
              replace H : (impl_DeskOk.l0 k2 y137 l0_1 (l0_1.length : Int) (wrap64 (x38_2 + 1)) a0_0 l0_1 l0_2 a0_3) = some r := by first | (rw [hy137]; with_reducible exact H) | (have H2_ := (Option.bind_some _ _).symm.trans H; rw [hy137]; with_reducible exact H2_) | (have H2_ := (Option.bind_some _ _).symm.trans H; with_reducible exact H2_) | with_reducible exact H | (rw [hy137]; exact H) | exact H
              have Ny137 := Aside0.mk hy137
              clear hy137
              have H' := Aside0.mk H
              clear H
              have p128 : 0 ≤ (x38_2 : Int) := of_decide_eq_true (by first | (with_reducible assumption) | assumption)
              have q128 : x38_2 < (l0_1.length : Int) := of_decide_eq_true (by first | (with_reducible assumption) | assumption)
              obtain ⟨ad128, e128, hx128_0, hx128_1, hx128_2⟩ := at_T41 HR0_1.out x38_2 p128 q128
              cases e128
              replace hx128_0 := (HB.out.cell (World.block_lt_of_cell? w _ hx128_0)).trans hx128_0
              replace hx128_1 := (HB.out.cell (World.block_lt_of_cell? w _ hx128_1)).trans hx128_1
              replace hx128_2 := (HB.out.cell (World.block_lt_of_cell? w _ hx128_2)).trans hx128_2
              replace p128 := eq_true p128
              replace q128 := eq_true q128
              go_wp2_with (first | ((with_reducible refine gate_dst (N := 5) rfl ?_); (try (refine gate_guard (by rfl) ?_; dsimp only)); refine box_event ?hg (N := 5) ?hd (cs := #[.int .i64 0, .int .i64 0, .int .i64 0]) (t := 41) ?hr ?_; (case hd => rfl); (case hg => rfl); (case hr => first | (go_simp; done) | (go_simp; rfl)); intro gb129 hg w43 hbox hb; have n0_ := Aside0.mk (Ms.R_below (by (with_reducible repeat (first | apply Ms.R_alloc | apply Ms.R_drewN | apply Ms.R_drew)); exact HO_3.out) hb); have n1_ := Aside0.mk (blkStep (g := gb121) hb); have n2_ := Aside0.mk (below_step belowNow hb); have n3_ := Aside0.mk (hbox); have n4_ := Aside0.mk ((by rw [hg]; exact (below_size belowNow) : w.heap.size ≤ gb129)); have n5_ := n4_; have n6_ := Aside0.mk ((by rw [hg]; exact Nat.ne_of_lt (blkLt (g := gb121)) : gb121 ≠ gb129)); have n7_ := Aside0.mk ((by rw [hg]; exact Nat.ne_of_gt (blkLt (g := gb121)) : gb129 ≠ gb121)); clear HO_3; clear BK121; clear HB; have HO_3 := n0_; have BK121 := n1_; have HB := n2_; have BK129 := n3_; have GW129 := n4_; have GE129 := n5_; have NB121_129 := n6_; have NB129_121 := n7_; clear n0_ n1_ n2_ n3_ n4_ n5_ n6_ n7_; clear hb hbox hg; have hnb44 := NB129_121.out; have hnc44 := NB121_129.out; have hcz45_0 : w43.cell? ⟨gb129, 0, none⟩ = some (.int .i64 0) := (blk_cell BK129.out 0).trans rfl; have hcz45_1 : w43.cell? ⟨gb129, 1, none⟩ = some (.int .i64 0) := (blk_cell BK129.out 1).trans rfl; have hcz45_2 : w43.cell? ⟨gb129, 2, none⟩ = some (.int .i64 0) := (blk_cell BK129.out 2).trans rfl; have hfz45_0 := blk_frozen BK129.out 0; have hfz45_1 := blk_frozen BK129.out 1; have hfz45_2 := blk_frozen BK129.out 2) | ((with_reducible refine gate_callee (f := 43) rfl ?_); refine goesL_ (some 44) rfl rfl Try.func43 (by kernel_rfl) rfl #[.int .i64 ((rd_T41 l0_1 x38_2).f0), .int .i64 0, .int .i64 255] rfl (by (try simp only [List.map_toArray, List.map_cons, List.map_nil]); first | done | rfl | (simp only [List.length_drop, List.length_take]; rfl)) ?_; (with_reducible refine (impl_in.calls ((rd_T41 l0_1 x38_2).f0) 0 255 true _ A21.out).mono ?_); rintro e w' ⟨rfl, ⟨nd, rfl⟩⟩; refine ⟨_, rfl, ?_⟩) | (go_at_call 43; (with_reducible refine (impl_in.calls ((rd_T41 l0_1 x38_2).f1) (-1) 1000000000 true _ A23.out).mono ?_); rintro e w' ⟨rfl, ⟨nd, rfl⟩⟩; have hcz46_0 : w43.cell? ⟨gb121, 0, none⟩ = some (.int .i64 a0_0) := (blk_cell BK121.out 0).trans rfl; have hcz46_1 : w43.cell? ⟨gb121, 1, none⟩ = some (.slice (some ad128) l0_1.length c0_1) := (blk_cell BK121.out 1).trans rfl; have hcz46_2 : w43.cell? ⟨gb121, 2, none⟩ = some (.slice A0_2 l0_2.length c0_2) := (blk_cell BK121.out 2).trans rfl; have hcz46_3 : w43.cell? ⟨gb121, 3, none⟩ = some (.int .i64 a0_3) := (blk_cell BK121.out 3).trans rfl; have hfz46_0 := blk_frozen BK121.out 0; have hfz46_1 := blk_frozen BK121.out 1; have hfz46_2 := blk_frozen BK121.out 2; have hfz46_3 := blk_frozen BK121.out 3) | (go_at_call 43; (with_reducible refine (impl_in.calls ((rd_T41 l0_1 x38_2).f2) 0 a0_0 true _ A25.out).mono ?_); rintro e w' ⟨rfl, ⟨nd, rfl⟩⟩) | ((with_reducible refine Ms.gate_map (m := 71) rfl ?_); (try (refine gate_guard (by rfl) ?_; dsimp only)); refine Ms.put_event (T := 75) (d := Kd.int .i64) (e := 3) (base := w.heap.size) (ok := fun _ => True) (l := x3_2) (w0 := w) ((rd_T41 l0_1 x38_2).f1) rfl rfl (Sets.KeyKind.int Try.underlying3) Try.underlying75 rfl rfl rfl ?aO ?aB ?_; (case aO => exact Ms.now); (case aB => exact belowNow); intro w47 ho hb hg; rw [← Ny137.out] at ho; have n0_ := Aside0.mk (Ms.blk_grown (g := gb121) (o := .cells #[.int .i64 a0_0, .slice (some ad128) l0_1.length c0_1, .slice A0_2 l0_2.length c0_2, .int .i64 a0_3] 31 (0, 0)) (blkFars) hg); have n1_ := Aside0.mk (Ms.blk_grown (g := gb129) (o := .cells #[.int .i64 ((rd_T41 l0_1 x38_2).f0), .int .i64 ((rd_T41 l0_1 x38_2).f1), .int .i64 ((rd_T41 l0_1 x38_2).f2)] 41 (0, 0)) (by (with_reducible repeat (first | refine blk_drewN ?_ _ | refine blk_drew ?_ | refine blk_alloc ?_ _)); refine blk_put (cs := #[.int .i64 ((rd_T41 l0_1 x38_2).f0), .int .i64 ((rd_T41 l0_1 x38_2).f1), .int .i64 0]) ?_ 2 _ rfl; (with_reducible repeat (first | refine blk_drewN ?_ _ | refine blk_drew ?_ | refine blk_alloc ?_ _)); refine blk_put (cs := #[.int .i64 ((rd_T41 l0_1 x38_2).f0), .int .i64 0, .int .i64 0]) ?_ 1 _ rfl; (with_reducible repeat (first | refine blk_drewN ?_ _ | refine blk_drew ?_ | refine blk_alloc ?_ _)); refine blk_put (cs := #[.int .i64 0, .int .i64 0, .int .i64 0]) ?_ 0 _ rfl; (with_reducible repeat (first | refine blk_drewN ?_ _ | refine blk_drew ?_ | refine blk_alloc ?_ _)); exact BK129.out) hg); have n2_ := Aside0.mk (hb); have n3_ := Aside0.mk (ho); clear BK121; clear BK129; clear HB; clear HO_3; have BK121 := n0_; have BK129 := n1_; have HB := n2_; have HO139 := n3_; clear n0_ n1_ n2_ n3_; clear ho hb hg))
              go_roundg k2
              case measure => have := HJ1.out; have := HK2.out; omega
              case rel => exact ⟨(y137), (wrap64 (x38_2 + 1)), (by first | rfl | (simp; done) | (simp [*]; done)), H', ⟨by have := HJ1.out; have := HK2.out; omega⟩, ⟨by (with_reducible repeat (first | apply Ms.R_alloc | apply Ms.R_drewN | apply Ms.R_drew)); exact HO139.out⟩, ⟨by (with_reducible repeat (first | refine blk_drewN ?_ _ | refine blk_drew ?_ | refine blk_alloc ?_ _)); exact BK121.out⟩, ⟨belowNow⟩⟩
             ·rw [if_neg c42] at H
              exact absurd H (by simp)
           ·replace c26 := Bool.eq_false_iff.mpr c26
            subst c26
            have H1 : (some false) = some r := by rw [if_neg (show ¬ (false = true) by decide)] at H; exact H
            clear H
            have H := H1
            clear H1
            obtain rfl := Option.some.inj H
            have p128 : 0 ≤ (x38_2 : Int) := of_decide_eq_true (by first | (with_reducible assumption) | assumption)
            have q128 : x38_2 < (l0_1.length : Int) := of_decide_eq_true (by first | (with_reducible assumption) | assumption)
            obtain ⟨ad128, e128, hx128_0, hx128_1, hx128_2⟩ := at_T41 HR0_1.out x38_2 p128 q128
            cases e128
            replace hx128_0 := (HB.out.cell (World.block_lt_of_cell? w _ hx128_0)).trans hx128_0
            replace hx128_1 := (HB.out.cell (World.block_lt_of_cell? w _ hx128_1)).trans hx128_1
            replace hx128_2 := (HB.out.cell (World.block_lt_of_cell? w _ hx128_2)).trans hx128_2
            replace p128 := eq_true p128
            replace q128 := eq_true q128
            go_wp2_with (first | ((with_reducible refine gate_dst (N := 5) rfl ?_); (try (refine gate_guard (by rfl) ?_; dsimp only)); refine box_event ?hg (N := 5) ?hd (cs := #[.int .i64 0, .int .i64 0, .int .i64 0]) (t := 41) ?hr ?_; (case hd => rfl); (case hg => rfl); (case hr => first | (go_simp; done) | (go_simp; rfl)); intro gb129 hg w48 hbox hb; have n0_ := Aside0.mk (Ms.R_below (by (with_reducible repeat (first | apply Ms.R_alloc | apply Ms.R_drewN | apply Ms.R_drew)); exact HO_3.out) hb); have n1_ := Aside0.mk (blkStep (g := gb121) hb); have n2_ := Aside0.mk (below_step belowNow hb); have n3_ := Aside0.mk (hbox); have n4_ := Aside0.mk ((by rw [hg]; exact (below_size belowNow) : w.heap.size ≤ gb129)); have n5_ := n4_; have n6_ := Aside0.mk ((by rw [hg]; exact Nat.ne_of_lt (blkLt (g := gb121)) : gb121 ≠ gb129)); have n7_ := Aside0.mk ((by rw [hg]; exact Nat.ne_of_gt (blkLt (g := gb121)) : gb129 ≠ gb121)); clear HO_3; clear BK121; clear HB; have HO_3 := n0_; have BK121 := n1_; have HB := n2_; have BK129 := n3_; have GW129 := n4_; have GE129 := n5_; have NB121_129 := n6_; have NB129_121 := n7_; clear n0_ n1_ n2_ n3_ n4_ n5_ n6_ n7_; clear hb hbox hg; have hnb49 := NB129_121.out; have hnc49 := NB121_129.out; have hcz50_0 : w48.cell? ⟨gb129, 0, none⟩ = some (.int .i64 0) := (blk_cell BK129.out 0).trans rfl; have hcz50_1 : w48.cell? ⟨gb129, 1, none⟩ = some (.int .i64 0) := (blk_cell BK129.out 1).trans rfl; have hcz50_2 : w48.cell? ⟨gb129, 2, none⟩ = some (.int .i64 0) := (blk_cell BK129.out 2).trans rfl; have hfz50_0 := blk_frozen BK129.out 0; have hfz50_1 := blk_frozen BK129.out 1; have hfz50_2 := blk_frozen BK129.out 2) | ((with_reducible refine gate_callee (f := 43) rfl ?_); refine goesL_ (some 44) rfl rfl Try.func43 (by kernel_rfl) rfl #[.int .i64 ((rd_T41 l0_1 x38_2).f0), .int .i64 0, .int .i64 255] rfl (by (try simp only [List.map_toArray, List.map_cons, List.map_nil]); first | done | rfl | (simp only [List.length_drop, List.length_take]; rfl)) ?_; (with_reducible refine (impl_in.calls ((rd_T41 l0_1 x38_2).f0) 0 255 true _ A21.out).mono ?_); rintro e w' ⟨rfl, ⟨nd, rfl⟩⟩; refine ⟨_, rfl, ?_⟩) | (go_at_call 43; (with_reducible refine (impl_in.calls ((rd_T41 l0_1 x38_2).f1) (-1) 1000000000 true _ A23.out).mono ?_); rintro e w' ⟨rfl, ⟨nd, rfl⟩⟩; have hcz51_0 : w48.cell? ⟨gb121, 0, none⟩ = some (.int .i64 a0_0) := (blk_cell BK121.out 0).trans rfl; have hcz51_1 : w48.cell? ⟨gb121, 1, none⟩ = some (.slice (some ad128) l0_1.length c0_1) := (blk_cell BK121.out 1).trans rfl; have hcz51_2 : w48.cell? ⟨gb121, 2, none⟩ = some (.slice A0_2 l0_2.length c0_2) := (blk_cell BK121.out 2).trans rfl; have hcz51_3 : w48.cell? ⟨gb121, 3, none⟩ = some (.int .i64 a0_3) := (blk_cell BK121.out 3).trans rfl; have hfz51_0 := blk_frozen BK121.out 0; have hfz51_1 := blk_frozen BK121.out 1; have hfz51_2 := blk_frozen BK121.out 2; have hfz51_3 := blk_frozen BK121.out 3) | (go_at_call 43; (with_reducible refine (impl_in.calls ((rd_T41 l0_1 x38_2).f2) 0 a0_0 false _ A25.out).mono ?_); rintro e w' ⟨rfl, ⟨nd, rfl⟩⟩))
            go_ret
            exact ⟨by first | rfl | (simp [errW_none, errW_some] <;> rfl) | (simp [*, errW_none, errW_some] <;> rfl), belowNow⟩
          ·replace c24 := Bool.eq_false_iff.mpr c24
           subst c24
           have H1 : (some false) = some r := by rw [if_neg (show ¬ (false = true) by decide)] at H; exact H
           clear H
           have H := H1
           clear H1
           obtain rfl := Option.some.inj H
           have p128 : 0 ≤ (x38_2 : Int) := of_decide_eq_true (by first | (with_reducible assumption) | assumption)
           have q128 : x38_2 < (l0_1.length : Int) := of_decide_eq_true (by first | (with_reducible assumption) | assumption)
           obtain ⟨ad128, e128, hx128_0, hx128_1, hx128_2⟩ := at_T41 HR0_1.out x38_2 p128 q128
           cases e128
           replace hx128_0 := (HB.out.cell (World.block_lt_of_cell? w _ hx128_0)).trans hx128_0
           replace hx128_1 := (HB.out.cell (World.block_lt_of_cell? w _ hx128_1)).trans hx128_1
           replace hx128_2 := (HB.out.cell (World.block_lt_of_cell? w _ hx128_2)).trans hx128_2
           replace p128 := eq_true p128
           replace q128 := eq_true q128
           go_wp2_with (first | ((with_reducible refine gate_dst (N := 5) rfl ?_); (try (refine gate_guard (by rfl) ?_; dsimp only)); refine box_event ?hg (N := 5) ?hd (cs := #[.int .i64 0, .int .i64 0, .int .i64 0]) (t := 41) ?hr ?_; (case hd => rfl); (case hg => rfl); (case hr => first | (go_simp; done) | (go_simp; rfl)); intro gb129 hg w52 hbox hb; have n0_ := Aside0.mk (Ms.R_below (by (with_reducible repeat (first | apply Ms.R_alloc | apply Ms.R_drewN | apply Ms.R_drew)); exact HO_3.out) hb); have n1_ := Aside0.mk (blkStep (g := gb121) hb); have n2_ := Aside0.mk (below_step belowNow hb); have n3_ := Aside0.mk (hbox); have n4_ := Aside0.mk ((by rw [hg]; exact (below_size belowNow) : w.heap.size ≤ gb129)); have n5_ := n4_; have n6_ := Aside0.mk ((by rw [hg]; exact Nat.ne_of_lt (blkLt (g := gb121)) : gb121 ≠ gb129)); have n7_ := Aside0.mk ((by rw [hg]; exact Nat.ne_of_gt (blkLt (g := gb121)) : gb129 ≠ gb121)); clear HO_3; clear BK121; clear HB; have HO_3 := n0_; have BK121 := n1_; have HB := n2_; have BK129 := n3_; have GW129 := n4_; have GE129 := n5_; have NB121_129 := n6_; have NB129_121 := n7_; clear n0_ n1_ n2_ n3_ n4_ n5_ n6_ n7_; clear hb hbox hg; have hnb53 := NB129_121.out; have hnc53 := NB121_129.out; have hcz54_0 : w52.cell? ⟨gb129, 0, none⟩ = some (.int .i64 0) := (blk_cell BK129.out 0).trans rfl; have hcz54_1 : w52.cell? ⟨gb129, 1, none⟩ = some (.int .i64 0) := (blk_cell BK129.out 1).trans rfl; have hcz54_2 : w52.cell? ⟨gb129, 2, none⟩ = some (.int .i64 0) := (blk_cell BK129.out 2).trans rfl; have hfz54_0 := blk_frozen BK129.out 0; have hfz54_1 := blk_frozen BK129.out 1; have hfz54_2 := blk_frozen BK129.out 2) | ((with_reducible refine gate_callee (f := 43) rfl ?_); refine goesL_ (some 44) rfl rfl Try.func43 (by kernel_rfl) rfl #[.int .i64 ((rd_T41 l0_1 x38_2).f0), .int .i64 0, .int .i64 255] rfl (by (try simp only [List.map_toArray, List.map_cons, List.map_nil]); first | done | rfl | (simp only [List.length_drop, List.length_take]; rfl)) ?_; (with_reducible refine (impl_in.calls ((rd_T41 l0_1 x38_2).f0) 0 255 true _ A21.out).mono ?_); rintro e w' ⟨rfl, ⟨nd, rfl⟩⟩; refine ⟨_, rfl, ?_⟩) | (go_at_call 43; (with_reducible refine (impl_in.calls ((rd_T41 l0_1 x38_2).f1) (-1) 1000000000 false _ A23.out).mono ?_); rintro e w' ⟨rfl, ⟨nd, rfl⟩⟩))
           go_ret
           exact ⟨by first | rfl | (simp [errW_none, errW_some] <;> rfl) | (simp [*, errW_none, errW_some] <;> rfl), belowNow⟩
         ·replace c22 := Bool.eq_false_iff.mpr c22
          subst c22
          have H1 : (some false) = some r := by rw [if_neg (show ¬ (false = true) by decide)] at H; exact H
          clear H
          have H := H1
          clear H1
          obtain rfl := Option.some.inj H
          have p128 : 0 ≤ (x38_2 : Int) := of_decide_eq_true (by first | (with_reducible assumption) | assumption)
          have q128 : x38_2 < (l0_1.length : Int) := of_decide_eq_true (by first | (with_reducible assumption) | assumption)
          obtain ⟨ad128, e128, hx128_0, hx128_1, hx128_2⟩ := at_T41 HR0_1.out x38_2 p128 q128
          cases e128
          replace hx128_0 := (HB.out.cell (World.block_lt_of_cell? w _ hx128_0)).trans hx128_0
          replace hx128_1 := (HB.out.cell (World.block_lt_of_cell? w _ hx128_1)).trans hx128_1
          replace hx128_2 := (HB.out.cell (World.block_lt_of_cell? w _ hx128_2)).trans hx128_2
          replace p128 := eq_true p128
          replace q128 := eq_true q128
          go_wp2_with (first | ((with_reducible refine gate_dst (N := 5) rfl ?_); (try (refine gate_guard (by rfl) ?_; dsimp only)); refine box_event ?hg (N := 5) ?hd (cs := #[.int .i64 0, .int .i64 0, .int .i64 0]) (t := 41) ?hr ?_; (case hd => rfl); (case hg => rfl); (case hr => first | (go_simp; done) | (go_simp; rfl)); intro gb129 hg w55 hbox hb; have n0_ := Aside0.mk (Ms.R_below (by (with_reducible repeat (first | apply Ms.R_alloc | apply Ms.R_drewN | apply Ms.R_drew)); exact HO_3.out) hb); have n1_ := Aside0.mk (blkStep (g := gb121) hb); have n2_ := Aside0.mk (below_step belowNow hb); have n3_ := Aside0.mk (hbox); have n4_ := Aside0.mk ((by rw [hg]; exact (below_size belowNow) : w.heap.size ≤ gb129)); have n5_ := n4_; have n6_ := Aside0.mk ((by rw [hg]; exact Nat.ne_of_lt (blkLt (g := gb121)) : gb121 ≠ gb129)); have n7_ := Aside0.mk ((by rw [hg]; exact Nat.ne_of_gt (blkLt (g := gb121)) : gb129 ≠ gb121)); clear HO_3; clear BK121; clear HB; have HO_3 := n0_; have BK121 := n1_; have HB := n2_; have BK129 := n3_; have GW129 := n4_; have GE129 := n5_; have NB121_129 := n6_; have NB129_121 := n7_; clear n0_ n1_ n2_ n3_ n4_ n5_ n6_ n7_; clear hb hbox hg; have hnb56 := NB129_121.out; have hnc56 := NB121_129.out; have hcz57_0 : w55.cell? ⟨gb129, 0, none⟩ = some (.int .i64 0) := (blk_cell BK129.out 0).trans rfl; have hcz57_1 : w55.cell? ⟨gb129, 1, none⟩ = some (.int .i64 0) := (blk_cell BK129.out 1).trans rfl; have hcz57_2 : w55.cell? ⟨gb129, 2, none⟩ = some (.int .i64 0) := (blk_cell BK129.out 2).trans rfl; have hfz57_0 := blk_frozen BK129.out 0; have hfz57_1 := blk_frozen BK129.out 1; have hfz57_2 := blk_frozen BK129.out 2) | ((with_reducible refine gate_callee (f := 43) rfl ?_); refine goesL_ (some 44) rfl rfl Try.func43 (by kernel_rfl) rfl #[.int .i64 ((rd_T41 l0_1 x38_2).f0), .int .i64 0, .int .i64 255] rfl (by (try simp only [List.map_toArray, List.map_cons, List.map_nil]); first | done | rfl | (simp only [List.length_drop, List.length_take]; rfl)) ?_; (with_reducible refine (impl_in.calls ((rd_T41 l0_1 x38_2).f0) 0 255 false _ A21.out).mono ?_); rintro e w' ⟨rfl, ⟨nd, rfl⟩⟩; refine ⟨_, rfl, ?_⟩))
          go_ret
          exact ⟨by first | rfl | (simp [errW_none, errW_some] <;> rfl) | (simp [*, errW_none, errW_some] <;> rfl), belowNow⟩
        ·rw [if_neg c20] at H
         exact absurd H (by simp)
       ·rw [if_neg c19] at H
        exact absurd H (by simp)
      ·rw [if_neg c18] at H
       have c18b0 : decide (x38_2 < (l0_1.length : Int)) = false := decide_eq_false c18
       clear c18
       have H' := Aside0.mk H
       clear H
       have hcz58_0 : wr.cell? ⟨gb121, 0, none⟩ = some (.int .i64 a0_0) := (blk_cell BK121.out 0).trans rfl
       have hcz58_1 : wr.cell? ⟨gb121, 1, none⟩ = some (.slice A0_1 l0_1.length c0_1) := (blk_cell BK121.out 1).trans rfl
       have hcz58_2 : wr.cell? ⟨gb121, 2, none⟩ = some (.slice A0_2 l0_2.length c0_2) := (blk_cell BK121.out 2).trans rfl
       have hcz58_3 : wr.cell? ⟨gb121, 3, none⟩ = some (.int .i64 a0_3) := (blk_cell BK121.out 3).trans rfl
       have hfz58_0 := blk_frozen BK121.out 0
       have hfz58_1 := blk_frozen BK121.out 1
       have hfz58_2 := blk_frozen BK121.out 2
       have hfz58_3 := blk_frozen BK121.out 3
       go_wp2
       go_loopg [78] k2 (fun kq v78 w' => ∃ (x3_3 : List Int) (x78_3 : Int), v78 = .int .i64 x78_3 ∧ Aside0 (impl_DeskOk.l1 kq x3_3 l0_2 (l0_2.length : Int) x78_3 a0_0 l0_1 l0_2 a0_3 = some r) ∧ Aside0 (kq ≤ k2) ∧ Aside0 (Ms.R (Kd.int .i64) 3 w' w.heap.size (fun _ => True) v126 x3_3) ∧ Aside0 (w'.heap[gb121]? = some (.cells #[.int .i64 a0_0, (.slice A0_1 l0_1.length c0_1), (.slice A0_2 l0_2.length c0_2), .int .i64 a0_3] 31 (0, 0))) ∧ Aside0 (Below w.heap.size w w'))
       case atStart => exact ⟨(x3_2), (0), (by first | rfl | (simp; done) | (simp [*]; done)), H', ⟨Nat.le_refl _⟩, ⟨by (with_reducible repeat (first | apply Ms.R_alloc | apply Ms.R_drewN | apply Ms.R_drew)); exact HO_3.out⟩, ⟨by (with_reducible repeat (first | refine blk_drewN ?_ _ | refine blk_drew ?_ | refine blk_alloc ?_ _)); exact BK121.out⟩, ⟨belowNow⟩⟩
       case round =>
        clear H'
        try clear c1
        try clear p1
        try clear q1
        try clear hx1
        try clear c2
        try clear p2
        try clear c3
        try clear c4
        try clear c5
        try clear p6
        try clear c7
        try clear c8
        try clear c8b0
        try clear c8b1
        try clear c12
        try clear p12
        try clear q12
        try clear hx12
        try clear c14
        try clear c18
        try clear c18b0
        try clear c19
        try clear c19b0
        try clear c20
        try clear c20b0
        try clear c22
        try clear c24
        try clear c26
        try clear c27
        try clear c27b0
        try clear c29
        try clear c31
        try clear c35
        try clear c37
        try clear c42
        try clear c43
        try clear c44
        try clear c49
        try clear c53
        try clear c56
        try clear hcz11_0
        try clear hcz11_1
        try clear hcz11_2
        try clear hcz11_3
        try clear hcz12_0
        try clear hcz12_1
        try clear hcz12_2
        try clear hcz12_3
        try clear hcz13_0
        try clear hcz13_1
        try clear hcz13_2
        try clear hcz13_3
        try clear hcz17_0
        try clear hcz17_1
        try clear hcz17_2
        try clear hcz17_3
        try clear hcz32_0
        try clear hcz32_1
        try clear hcz32_2
        try clear hcz33_0
        try clear hcz33_1
        try clear hcz33_2
        try clear hcz33_3
        try clear hcz38_0
        try clear hcz38_1
        try clear hcz38_2
        try clear hcz39_0
        try clear hcz39_1
        try clear hcz39_2
        try clear hcz39_3
        try clear hcz45_0
        try clear hcz45_1
        try clear hcz45_2
        try clear hcz46_0
        try clear hcz46_1
        try clear hcz46_2
        try clear hcz46_3
        try clear hcz50_0
        try clear hcz50_1
        try clear hcz50_2
        try clear hcz51_0
        try clear hcz51_1
        try clear hcz51_2
        try clear hcz51_3
        try clear hcz54_0
        try clear hcz54_1
        try clear hcz54_2
        try clear hcz57_0
        try clear hcz57_1
        try clear hcz57_2
        try clear hcz58_0
        try clear hcz58_1
        try clear hcz58_2
        try clear hcz58_3
        try clear hcz9_0
        try clear hcz9_1
        try clear hcz9_2
        try clear hcz9_3
        try clear hfz11_0
        try clear hfz11_1
        try clear hfz11_2
        try clear hfz11_3
        try clear hfz12_0
        try clear hfz12_1
        try clear hfz12_2
        try clear hfz12_3
        try clear hfz13_0
        try clear hfz13_1
        try clear hfz13_2
        try clear hfz13_3
        try clear hfz17_0
        try clear hfz17_1
        try clear hfz17_2
        try clear hfz17_3
        try clear hfz32_0
        try clear hfz32_1
        try clear hfz32_2
        try clear hfz33_0
        try clear hfz33_1
        try clear hfz33_2
        try clear hfz33_3
        try clear hfz38_0
        try clear hfz38_1
        try clear hfz38_2
        try clear hfz39_0
        try clear hfz39_1
        try clear hfz39_2
        try clear hfz39_3
        try clear hfz45_0
        try clear hfz45_1
        try clear hfz45_2
        try clear hfz46_0
        try clear hfz46_1
        try clear hfz46_2
        try clear hfz46_3
        try clear hfz50_0
        try clear hfz50_1
        try clear hfz50_2
        try clear hfz51_0
        try clear hfz51_1
        try clear hfz51_2
        try clear hfz51_3
        try clear hfz54_0
        try clear hfz54_1
        try clear hfz54_2
        try clear hfz57_0
        try clear hfz57_1
        try clear hfz57_2
        try clear hfz58_0
        try clear hfz58_1
        try clear hfz58_2
        try clear hfz58_3
        try clear hfz9_0
        try clear hfz9_1
        try clear hfz9_2
        try clear hfz9_3
        try clear hx128_0
        try clear hx128_1
        try clear hx128_2
        try clear p128
        try clear p2
        try clear q128
        obtain ⟨x3_3, x78_3, rfl, HA, HK3, HO_3, BK121, HB⟩ := hrel
        cases gk with
        | zero => exact absurd HA.out (by simp [impl_DeskOk.l1])
        | succ k3 =>
         have H := HA.out
         clear HA
         simp only [impl_DeskOk.l1] at H
         by_cases c59 : x78_3 < (l0_2.length : Int)
         ·rw [if_pos c59] at H
          have c59b0 : decide (x78_3 < (l0_2.length : Int)) = true := decide_eq_true c59
          clear c59
          by_cases c60 : 0 ≤ x78_3
          ·rw [if_pos c60] at H
           have c60b0 : decide (0 ≤ x78_3) = true := decide_eq_true c60
           clear c60
           by_cases c61 : x78_3 < (l0_2.length : Int)
           ·rw [if_pos c61] at H
            have c61b0 : decide (x78_3 < (l0_2.length : Int)) = true := decide_eq_true c61
            clear c61
            replace H := Option.bind_eq_some_iff.mp H
            obtain ⟨t145, A620, H⟩ := H
            replace H : (if t145 = true then ((runtime_boundsError_RuntimeError.f x3_3 ((rd_T70 l0_2 x78_3).f0)).bind fun t146 => (if t146 = true then (some false) else ((impl_skillOk.f ((rd_T70 l0_2 x78_3).f1)).bind fun t147 => (if t147 = true then ((impl_in.f ((rd_T70 l0_2 x78_3).f2) 0 9).bind fun t148 => (if t148 = true then ((impl_in.f ((rd_T70 l0_2 x78_3).f3) 0 a0_0).bind fun t149 => (if t149 = true then (if x3_3.length < 17592186044416 then (impl_DeskOk.l1 k3 (x3_3 ++ [(rd_T70 l0_2 x78_3).f0]) l0_2 (l0_2.length : Int) (wrap64 (x78_3 + 1)) a0_0 l0_1 l0_2 a0_3) else (none)) else (some false))) else (some false))) else (some false))))) else (some false)) = some r := H
            have A62 := Aside0.mk A620
            clear A620
            by_cases c63 : t145 = true
            ·subst c63
             have H1 : ((runtime_boundsError_RuntimeError.f x3_3 ((rd_T70 l0_2 x78_3).f0)).bind fun t146 => (if t146 = true then (some false) else ((impl_skillOk.f ((rd_T70 l0_2 x78_3).f1)).bind fun t147 => (if t147 = true then ((impl_in.f ((rd_T70 l0_2 x78_3).f2) 0 9).bind fun t148 => (if t148 = true then ((impl_in.f ((rd_T70 l0_2 x78_3).f3) 0 a0_0).bind fun t149 => (if t149 = true then (if x3_3.length < 17592186044416 then (impl_DeskOk.l1 k3 (x3_3 ++ [(rd_T70 l0_2 x78_3).f0]) l0_2 (l0_2.length : Int) (wrap64 (x78_3 + 1)) a0_0 l0_1 l0_2 a0_3) else (none)) else (some false))) else (some false))) else (some false))))) = some r := by rw [if_pos rfl] at H; exact H
             clear H
             have H := H1
             clear H1
             replace H := Option.bind_eq_some_iff.mp H
             obtain ⟨t146, A640, H⟩ := H
             replace H : (if t146 = true then (some false) else ((impl_skillOk.f ((rd_T70 l0_2 x78_3).f1)).bind fun t147 => (if t147 = true then ((impl_in.f ((rd_T70 l0_2 x78_3).f2) 0 9).bind fun t148 => (if t148 = true then ((impl_in.f ((rd_T70 l0_2 x78_3).f3) 0 a0_0).bind fun t149 => (if t149 = true then (if x3_3.length < 17592186044416 then (impl_DeskOk.l1 k3 (x3_3 ++ [(rd_T70 l0_2 x78_3).f0]) l0_2 (l0_2.length : Int) (wrap64 (x78_3 + 1)) a0_0 l0_1 l0_2 a0_3) else (none)) else (some false))) else (some false))) else (some false)))) = some r := H
             have A64 := Aside0.mk A640
             clear A640
             by_cases c65 : t146 = true
             ·subst c65
              have H1 : (some false) = some r := by rw [if_pos rfl] at H; exact H
              clear H
              have H := H1
              clear H1
              obtain rfl := Option.some.inj H
              have p143 : 0 ≤ (x78_3 : Int) := of_decide_eq_true (by first | (with_reducible assumption) | assumption)
              have q143 : x78_3 < (l0_2.length : Int) := of_decide_eq_true (by first | (with_reducible assumption) | assumption)
              obtain ⟨ad143, e143, hx143_0, hx143_1, hx143_2, hx143_3⟩ := at_T70 HR0_2.out x78_3 p143 q143
              cases e143
              replace hx143_0 := (HB.out.cell (World.block_lt_of_cell? w _ hx143_0)).trans hx143_0
              replace hx143_1 := (HB.out.cell (World.block_lt_of_cell? w _ hx143_1)).trans hx143_1
              replace hx143_2 := (HB.out.cell (World.block_lt_of_cell? w _ hx143_2)).trans hx143_2
              replace hx143_3 := (HB.out.cell (World.block_lt_of_cell? w _ hx143_3)).trans hx143_3
              replace p143 := eq_true p143
              replace q143 := eq_true q143
              go_wp2_with (first | ((with_reducible refine gate_dst (N := 7) rfl ?_); (try (refine gate_guard (by rfl) ?_; dsimp only)); refine box_event ?hg (N := 7) ?hd (cs := #[.int .i64 0, .int .i64 0, .int .i64 0, .int .i64 0]) (t := 70) ?hr ?_; (case hd => rfl); (case hg => rfl); (case hr => first | (go_simp; done) | (go_simp; rfl)); intro gb144 hg w66 hbox hb; have n0_ := Aside0.mk (Ms.R_below (by (with_reducible repeat (first | apply Ms.R_alloc | apply Ms.R_drewN | apply Ms.R_drew)); exact HO_3.out) hb); have n1_ := Aside0.mk (blkStep (g := gb121) hb); have n2_ := Aside0.mk (below_step belowNow hb); have n3_ := Aside0.mk (hbox); have n4_ := Aside0.mk ((by rw [hg]; exact (below_size belowNow) : w.heap.size ≤ gb144)); have n5_ := n4_; have n6_ := Aside0.mk ((by rw [hg]; exact Nat.ne_of_lt (blkLt (g := gb121)) : gb121 ≠ gb144)); have n7_ := Aside0.mk ((by rw [hg]; exact Nat.ne_of_gt (blkLt (g := gb121)) : gb144 ≠ gb121)); clear HO_3; clear BK121; clear HB; have HO_3 := n0_; have BK121 := n1_; have HB := n2_; have BK144 := n3_; have GW144 := n4_; have GE144 := n5_; have NB121_144 := n6_; have NB144_121 := n7_; clear n0_ n1_ n2_ n3_ n4_ n5_ n6_ n7_; clear hb hbox hg; have hnb67 := NB144_121.out; have hnc67 := NB121_144.out; have hcz68_0 : w66.cell? ⟨gb144, 0, none⟩ = some (.int .i64 0) := (blk_cell BK144.out 0).trans rfl; have hcz68_1 : w66.cell? ⟨gb144, 1, none⟩ = some (.int .i64 0) := (blk_cell BK144.out 1).trans rfl; have hcz68_2 : w66.cell? ⟨gb144, 2, none⟩ = some (.int .i64 0) := (blk_cell BK144.out 2).trans rfl; have hcz68_3 : w66.cell? ⟨gb144, 3, none⟩ = some (.int .i64 0) := (blk_cell BK144.out 3).trans rfl; have hfz68_0 := blk_frozen BK144.out 0; have hfz68_1 := blk_frozen BK144.out 1; have hfz68_2 := blk_frozen BK144.out 2; have hfz68_3 := blk_frozen BK144.out 3) | ((with_reducible refine gate_callee (f := 43) rfl ?_); refine goesL_ (some 84) rfl rfl Try.func43 (by kernel_rfl) rfl #[.int .i64 ((rd_T70 l0_2 x78_3).f0), .int .i64 0, .int .i64 1000000000] rfl (by (try simp only [List.map_toArray, List.map_cons, List.map_nil]); first | done | rfl | (simp only [List.length_drop, List.length_take]; rfl)) ?_; (with_reducible refine (impl_in.calls ((rd_T70 l0_2 x78_3).f0) 0 1000000000 true _ A62.out).mono ?_); rintro e w' ⟨rfl, ⟨nd, rfl⟩⟩; refine ⟨_, rfl, ?_⟩; obtain ⟨Ao69, eo69⟩ := Ms.R_map HO_3.out; subst eo69) | ((with_reducible refine gate_dst (N := 68) rfl ?_); (try (refine gate_guard (by rfl) ?_; dsimp only)); refine Ms.look_event (T := 75) (d := Kd.int .i64) (e := 3) (base := w.heap.size) (ok := fun _ => True) (l := x3_3) ((rd_T70 l0_2 x78_3).f0) true (by rfl) rfl (Sets.KeyKind.int Try.underlying3) Try.underlying75 (fun w => by kernel_rfl) rfl (by first | rfl | (go_simp; done) | (go_simp; rfl)) Ms.now A64.out ?_) | ((with_reducible refine gate_dst (N := 90) rfl ?_); (try (refine gate_guard (by rfl) ?_; dsimp only)); refine Ms.look_event (T := 75) (d := Kd.int .i64) (e := 3) (base := w.heap.size) (ok := fun _ => True) (l := x3_3) ((rd_T70 l0_2 x78_3).f0) true (by rfl) rfl (Sets.KeyKind.int Try.underlying3) Try.underlying75 (fun w => by kernel_rfl) rfl (by first | rfl | (go_simp; done) | (go_simp; rfl)) Ms.now A64.out ?_))
              go_ret
              exact ⟨by first | rfl | (simp [errW_none, errW_some] <;> rfl) | (simp [*, errW_none, errW_some] <;> rfl), belowNow⟩
             ·replace c65 := Bool.eq_false_iff.mpr c65
              subst c65
              have H1 : ((impl_skillOk.f ((rd_T70 l0_2 x78_3).f1)).bind fun t147 => (if t147 = true then ((impl_in.f ((rd_T70 l0_2 x78_3).f2) 0 9).bind fun t148 => (if t148 = true then ((impl_in.f ((rd_T70 l0_2 x78_3).f3) 0 a0_0).bind fun t149 => (if t149 = true then (if x3_3.length < 17592186044416 then (impl_DeskOk.l1 k3 (x3_3 ++ [(rd_T70 l0_2 x78_3).f0]) l0_2 (l0_2.length : Int) (wrap64 (x78_3 + 1)) a0_0 l0_1 l0_2 a0_3) else (none)) else (some false))) else (some false))) else (some false))) = some r := by rw [if_neg (show ¬ (false = true) by decide)] at H; exact H
              clear H
              have H := H1
              clear H1
              replace H := Option.bind_eq_some_iff.mp H
              obtain ⟨t147, A700, H⟩ := H
              replace H : (if t147 = true then ((impl_in.f ((rd_T70 l0_2 x78_3).f2) 0 9).bind fun t148 => (if t148 = true then ((impl_in.f ((rd_T70 l0_2 x78_3).f3) 0 a0_0).bind fun t149 => (if t149 = true then (if x3_3.length < 17592186044416 then (impl_DeskOk.l1 k3 (x3_3 ++ [(rd_T70 l0_2 x78_3).f0]) l0_2 (l0_2.length : Int) (wrap64 (x78_3 + 1)) a0_0 l0_1 l0_2 a0_3) else (none)) else (some false))) else (some false))) else (some false)) = some r := H
              have A70 := Aside0.mk A700
              clear A700
              by_cases c71 : t147 = true
              ·subst c71
               have H1 : ((impl_in.f ((rd_T70 l0_2 x78_3).f2) 0 9).bind fun t148 => (if t148 = true then ((impl_in.f ((rd_T70 l0_2 x78_3).f3) 0 a0_0).bind fun t149 => (if t149 = true then (if x3_3.length < 17592186044416 then (impl_DeskOk.l1 k3 (x3_3 ++ [(rd_T70 l0_2 x78_3).f0]) l0_2 (l0_2.length : Int) (wrap64 (x78_3 + 1)) a0_0 l0_1 l0_2 a0_3) else (none)) else (some false))) else (some false))) = some r := by rw [if_pos rfl] at H; exact H
               clear H
               have H := H1
               clear H1
               replace H := Option.bind_eq_some_iff.mp H
               obtain ⟨t148, A720, H⟩ := H
               replace H : (if t148 = true then ((impl_in.f ((rd_T70 l0_2 x78_3).f3) 0 a0_0).bind fun t149 => (if t149 = true then (if x3_3.length < 17592186044416 then (impl_DeskOk.l1 k3 (x3_3 ++ [(rd_T70 l0_2 x78_3).f0]) l0_2 (l0_2.length : Int) (wrap64 (x78_3 + 1)) a0_0 l0_1 l0_2 a0_3) else (none)) else (some false))) else (some false)) = some r := H
               have A72 := Aside0.mk A720
               clear A720
               by_cases c73 : t148 = true
               ·subst c73
                have H1 : ((impl_in.f ((rd_T70 l0_2 x78_3).f3) 0 a0_0).bind fun t149 => (if t149 = true then (if x3_3.length < 17592186044416 then (impl_DeskOk.l1 k3 (x3_3 ++ [(rd_T70 l0_2 x78_3).f0]) l0_2 (l0_2.length : Int) (wrap64 (x78_3 + 1)) a0_0 l0_1 l0_2 a0_3) else (none)) else (some false))) = some r := by rw [if_pos rfl] at H; exact H
                clear H
                have H := H1
                clear H1
                replace H := Option.bind_eq_some_iff.mp H
                obtain ⟨t149, A740, H⟩ := H
                replace H : (if t149 = true then (if x3_3.length < 17592186044416 then (impl_DeskOk.l1 k3 (x3_3 ++ [(rd_T70 l0_2 x78_3).f0]) l0_2 (l0_2.length : Int) (wrap64 (x78_3 + 1)) a0_0 l0_1 l0_2 a0_3) else (none)) else (some false)) = some r := H
                have A74 := Aside0.mk A740
                clear A740
                by_cases c75 : t149 = true
                ·subst c75
                 have H1 : (if x3_3.length < 17592186044416 then (impl_DeskOk.l1 k3 (x3_3 ++ [(rd_T70 l0_2 x78_3).f0]) l0_2 (l0_2.length : Int) (wrap64 (x78_3 + 1)) a0_0 l0_1 l0_2 a0_3) else (none)) = some r := by rw [if_pos rfl] at H; exact H
                 clear H
                 have H := H1
                 clear H1
                 by_cases c76 : x3_3.length < 17592186044416
                 ·rw [if_pos c76] at H
                  have LMc76 := Aside0.mk c76
                  clear c76
                  obtain ⟨y150, hy150⟩ : ∃ y_ : List Int, y_ = (x3_3 ++ [(rd_T70 l0_2 x78_3).f0]) := ⟨_, rfl⟩
                  replace H : (impl_DeskOk.l1 k3 y150 l0_2 (l0_2.length : Int) (wrap64 (x78_3 + 1)) a0_0 l0_1 l0_2 a0_3) = some r := by first | (rw [hy150]; with_reducible exact H) | (have H2_ := (Option.bind_some _ _).symm.trans H; rw [hy150]; with_reducible exact H2_) | (have H2_ := (Option.bind_some _ _).symm.trans H; with_reducible exact H2_) | with_reducible exact H | (rw [hy150]; exact H) | exact H
                  have Ny150 := Aside0.mk hy150
                  clear hy150
                  have H' := Aside0.mk H
                  clear H
                  have p143 : 0 ≤ (x78_3 : Int) := of_decide_eq_true (by first | (with_reducible assumption) | assumption)
                  have q143 : x78_3 < (l0_2.length : Int) := of_decide_eq_true (by first | (with_reducible assumption) | assumption)
                  obtain ⟨ad143, e143, hx143_0, hx143_1, hx143_2, hx143_3⟩ := at_T70 HR0_2.out x78_3 p143 q143
                  cases e143
                  replace hx143_0 := (HB.out.cell (World.block_lt_of_cell? w _ hx143_0)).trans hx143_0
                  replace hx143_1 := (HB.out.cell (World.block_lt_of_cell? w _ hx143_1)).trans hx143_1
                  replace hx143_2 := (HB.out.cell (World.block_lt_of_cell? w _ hx143_2)).trans hx143_2
                  replace hx143_3 := (HB.out.cell (World.block_lt_of_cell? w _ hx143_3)).trans hx143_3
                  replace p143 := eq_true p143
                  replace q143 := eq_true q143
                  go_wp2_with (first | ((with_reducible refine gate_dst (N := 7) rfl ?_); (try (refine gate_guard (by rfl) ?_; dsimp only)); refine box_event ?hg (N := 7) ?hd (cs := #[.int .i64 0, .int .i64 0, .int .i64 0, .int .i64 0]) (t := 70) ?hr ?_; (case hd => rfl); (case hg => rfl); (case hr => first | (go_simp; done) | (go_simp; rfl)); intro gb144 hg w77 hbox hb; have n0_ := Aside0.mk (Ms.R_below (by (with_reducible repeat (first | apply Ms.R_alloc | apply Ms.R_drewN | apply Ms.R_drew)); exact HO_3.out) hb); have n1_ := Aside0.mk (blkStep (g := gb121) hb); have n2_ := Aside0.mk (below_step belowNow hb); have n3_ := Aside0.mk (hbox); have n4_ := Aside0.mk ((by rw [hg]; exact (below_size belowNow) : w.heap.size ≤ gb144)); have n5_ := n4_; have n6_ := Aside0.mk ((by rw [hg]; exact Nat.ne_of_lt (blkLt (g := gb121)) : gb121 ≠ gb144)); have n7_ := Aside0.mk ((by rw [hg]; exact Nat.ne_of_gt (blkLt (g := gb121)) : gb144 ≠ gb121)); clear HO_3; clear BK121; clear HB; have HO_3 := n0_; have BK121 := n1_; have HB := n2_; have BK144 := n3_; have GW144 := n4_; have GE144 := n5_; have NB121_144 := n6_; have NB144_121 := n7_; clear n0_ n1_ n2_ n3_ n4_ n5_ n6_ n7_; clear hb hbox hg; have hnb78 := NB144_121.out; have hnc78 := NB121_144.out; have hcz79_0 : w77.cell? ⟨gb144, 0, none⟩ = some (.int .i64 0) := (blk_cell BK144.out 0).trans rfl; have hcz79_1 : w77.cell? ⟨gb144, 1, none⟩ = some (.int .i64 0) := (blk_cell BK144.out 1).trans rfl; have hcz79_2 : w77.cell? ⟨gb144, 2, none⟩ = some (.int .i64 0) := (blk_cell BK144.out 2).trans rfl; have hcz79_3 : w77.cell? ⟨gb144, 3, none⟩ = some (.int .i64 0) := (blk_cell BK144.out 3).trans rfl; have hfz79_0 := blk_frozen BK144.out 0; have hfz79_1 := blk_frozen BK144.out 1; have hfz79_2 := blk_frozen BK144.out 2; have hfz79_3 := blk_frozen BK144.out 3) | ((with_reducible refine gate_callee (f := 43) rfl ?_); refine goesL_ (some 84) rfl rfl Try.func43 (by kernel_rfl) rfl #[.int .i64 ((rd_T70 l0_2 x78_3).f0), .int .i64 0, .int .i64 1000000000] rfl (by (try simp only [List.map_toArray, List.map_cons, List.map_nil]); first | done | rfl | (simp only [List.length_drop, List.length_take]; rfl)) ?_; (with_reducible refine (impl_in.calls ((rd_T70 l0_2 x78_3).f0) 0 1000000000 true _ A62.out).mono ?_); rintro e w' ⟨rfl, ⟨nd, rfl⟩⟩; refine ⟨_, rfl, ?_⟩; obtain ⟨Ao80, eo80⟩ := Ms.R_map HO_3.out; subst eo80) | ((with_reducible refine gate_dst (N := 68) rfl ?_); (try (refine gate_guard (by rfl) ?_; dsimp only)); refine Ms.look_event (T := 75) (d := Kd.int .i64) (e := 3) (base := w.heap.size) (ok := fun _ => True) (l := x3_3) ((rd_T70 l0_2 x78_3).f0) false (by rfl) rfl (Sets.KeyKind.int Try.underlying3) Try.underlying75 (fun w => by kernel_rfl) rfl (by first | rfl | (go_simp; done) | (go_simp; rfl)) Ms.now A64.out ?_) | ((with_reducible refine gate_dst (N := 90) rfl ?_); (try (refine gate_guard (by rfl) ?_; dsimp only)); refine Ms.look_event (T := 75) (d := Kd.int .i64) (e := 3) (base := w.heap.size) (ok := fun _ => True) (l := x3_3) ((rd_T70 l0_2 x78_3).f0) false (by rfl) rfl (Sets.KeyKind.int Try.underlying3) Try.underlying75 (fun w => by kernel_rfl) rfl (by first | rfl | (go_simp; done) | (go_simp; rfl)) Ms.now A64.out ?_) | (go_at_call 44; (with_reducible refine (impl_skillOk.calls ((rd_T70 l0_2 x78_3).f1) true _ A70.out).mono ?_); rintro e w' ⟨rfl, ⟨nd, rfl⟩⟩) | (go_at_call 43; (with_reducible refine (impl_in.calls ((rd_T70 l0_2 x78_3).f2) 0 9 true _ A72.out).mono ?_); rintro e w' ⟨rfl, ⟨nd, rfl⟩⟩; have hcz81_0 : w77.cell? ⟨gb121, 0, none⟩ = some (.int .i64 a0_0) := (blk_cell BK121.out 0).trans rfl; have hcz81_1 : w77.cell? ⟨gb121, 1, none⟩ = some (.slice A0_1 l0_1.length c0_1) := (blk_cell BK121.out 1).trans rfl; have hcz81_2 : w77.cell? ⟨gb121, 2, none⟩ = some (.slice (some ad143) l0_2.length c0_2) := (blk_cell BK121.out 2).trans rfl; have hcz81_3 : w77.cell? ⟨gb121, 3, none⟩ = some (.int .i64 a0_3) := (blk_cell BK121.out 3).trans rfl; have hfz81_0 := blk_frozen BK121.out 0; have hfz81_1 := blk_frozen BK121.out 1; have hfz81_2 := blk_frozen BK121.out 2; have hfz81_3 := blk_frozen BK121.out 3) | (go_at_call 43; (with_reducible refine (impl_in.calls ((rd_T70 l0_2 x78_3).f3) 0 a0_0 true _ A74.out).mono ?_); rintro e w' ⟨rfl, ⟨nd, rfl⟩⟩) | ((with_reducible refine Ms.gate_map (m := 112) rfl ?_); (try (refine gate_guard (by rfl) ?_; dsimp only)); refine Ms.put_event (T := 75) (d := Kd.int .i64) (e := 3) (base := w.heap.size) (ok := fun _ => True) (l := x3_3) (w0 := w) ((rd_T70 l0_2 x78_3).f0) rfl rfl (Sets.KeyKind.int Try.underlying3) Try.underlying75 rfl rfl rfl ?aO ?aB ?_; (case aO => exact Ms.now); (case aB => exact belowNow); intro w82 ho hb hg; rw [← Ny150.out] at ho; have n0_ := Aside0.mk (Ms.blk_grown (g := gb121) (o := .cells #[.int .i64 a0_0, .slice A0_1 l0_1.length c0_1, .slice (some ad143) l0_2.length c0_2, .int .i64 a0_3] 31 (0, 0)) (blkFars) hg); have n1_ := Aside0.mk (Ms.blk_grown (g := gb144) (o := .cells #[.int .i64 ((rd_T70 l0_2 x78_3).f0), .int .i64 ((rd_T70 l0_2 x78_3).f1), .int .i64 ((rd_T70 l0_2 x78_3).f2), .int .i64 ((rd_T70 l0_2 x78_3).f3)] 70 (0, 0)) (by (with_reducible repeat (first | refine blk_drewN ?_ _ | refine blk_drew ?_ | refine blk_alloc ?_ _)); refine blk_put (cs := #[.int .i64 ((rd_T70 l0_2 x78_3).f0), .int .i64 ((rd_T70 l0_2 x78_3).f1), .int .i64 ((rd_T70 l0_2 x78_3).f2), .int .i64 0]) ?_ 3 _ rfl; (with_reducible repeat (first | refine blk_drewN ?_ _ | refine blk_drew ?_ | refine blk_alloc ?_ _)); refine blk_put (cs := #[.int .i64 ((rd_T70 l0_2 x78_3).f0), .int .i64 ((rd_T70 l0_2 x78_3).f1), .int .i64 0, .int .i64 0]) ?_ 2 _ rfl; (with_reducible repeat (first | refine blk_drewN ?_ _ | refine blk_drew ?_ | refine blk_alloc ?_ _)); refine blk_put (cs := #[.int .i64 ((rd_T70 l0_2 x78_3).f0), .int .i64 0, .int .i64 0, .int .i64 0]) ?_ 1 _ rfl; (with_reducible repeat (first | refine blk_drewN ?_ _ | refine blk_drew ?_ | refine blk_alloc ?_ _)); refine blk_put (cs := #[.int .i64 0, .int .i64 0, .int .i64 0, .int .i64 0]) ?_ 0 _ rfl; (with_reducible repeat (first | refine blk_drewN ?_ _ | refine blk_drew ?_ | refine blk_alloc ?_ _)); exact BK144.out) hg); have n2_ := Aside0.mk (hb); have n3_ := Aside0.mk (ho); clear BK121; clear BK144; clear HB; clear HO_3; have BK121 := n0_; have BK144 := n1_; have HB := n2_; have HO152 := n3_; clear n0_ n1_ n2_ n3_; clear ho hb hg))
                  go_roundg k3
                  case measure => have := HJ1.out; have := HK2.out; have := HK3.out; omega
                  case rel => exact ⟨(y150), (wrap64 (x78_3 + 1)), (by first | rfl | (simp; done) | (simp [*]; done)), H', ⟨by have := HJ1.out; have := HK2.out; have := HK3.out; omega⟩, ⟨by (with_reducible repeat (first | apply Ms.R_alloc | apply Ms.R_drewN | apply Ms.R_drew)); exact HO152.out⟩, ⟨by (with_reducible repeat (first | refine blk_drewN ?_ _ | refine blk_drew ?_ | refine blk_alloc ?_ _)); exact BK121.out⟩, ⟨belowNow⟩⟩
                 ·rw [if_neg c76] at H
                  exact absurd H (by simp)
                ·replace c75 := Bool.eq_false_iff.mpr c75
                 subst c75
                 have H1 : (some false) = some r := by rw [if_neg (show ¬ (false = true) by decide)] at H; exact H
                 clear H
                 have H := H1
                 clear H1
                 obtain rfl := Option.some.inj H
                 have p143 : 0 ≤ (x78_3 : Int) := of_decide_eq_true (by first | (with_reducible assumption) | assumption)
                 have q143 : x78_3 < (l0_2.length : Int) := of_decide_eq_true (by first | (with_reducible assumption) | assumption)
                 obtain ⟨ad143, e143, hx143_0, hx143_1, hx143_2, hx143_3⟩ := at_T70 HR0_2.out x78_3 p143 q143
                 cases e143
                 replace hx143_0 := (HB.out.cell (World.block_lt_of_cell? w _ hx143_0)).trans hx143_0
                 replace hx143_1 := (HB.out.cell (World.block_lt_of_cell? w _ hx143_1)).trans hx143_1
                 replace hx143_2 := (HB.out.cell (World.block_lt_of_cell? w _ hx143_2)).trans hx143_2
                 replace hx143_3 := (HB.out.cell (World.block_lt_of_cell? w _ hx143_3)).trans hx143_3
                 replace p143 := eq_true p143
                 replace q143 := eq_true q143
                 go_wp2_with (first | ((with_reducible refine gate_dst (N := 7) rfl ?_); (try (refine gate_guard (by rfl) ?_; dsimp only)); refine box_event ?hg (N := 7) ?hd (cs := #[.int .i64 0, .int .i64 0, .int .i64 0, .int .i64 0]) (t := 70) ?hr ?_; (case hd => rfl); (case hg => rfl); (case hr => first | (go_simp; done) | (go_simp; rfl)); intro gb144 hg w83 hbox hb; have n0_ := Aside0.mk (Ms.R_below (by (with_reducible repeat (first | apply Ms.R_alloc | apply Ms.R_drewN | apply Ms.R_drew)); exact HO_3.out) hb); have n1_ := Aside0.mk (blkStep (g := gb121) hb); have n2_ := Aside0.mk (below_step belowNow hb); have n3_ := Aside0.mk (hbox); have n4_ := Aside0.mk ((by rw [hg]; exact (below_size belowNow) : w.heap.size ≤ gb144)); have n5_ := n4_; have n6_ := Aside0.mk ((by rw [hg]; exact Nat.ne_of_lt (blkLt (g := gb121)) : gb121 ≠ gb144)); have n7_ := Aside0.mk ((by rw [hg]; exact Nat.ne_of_gt (blkLt (g := gb121)) : gb144 ≠ gb121)); clear HO_3; clear BK121; clear HB; have HO_3 := n0_; have BK121 := n1_; have HB := n2_; have BK144 := n3_; have GW144 := n4_; have GE144 := n5_; have NB121_144 := n6_; have NB144_121 := n7_; clear n0_ n1_ n2_ n3_ n4_ n5_ n6_ n7_; clear hb hbox hg; have hnb84 := NB144_121.out; have hnc84 := NB121_144.out; have hcz85_0 : w83.cell? ⟨gb144, 0, none⟩ = some (.int .i64 0) := (blk_cell BK144.out 0).trans rfl; have hcz85_1 : w83.cell? ⟨gb144, 1, none⟩ = some (.int .i64 0) := (blk_cell BK144.out 1).trans rfl; have hcz85_2 : w83.cell? ⟨gb144, 2, none⟩ = some (.int .i64 0) := (blk_cell BK144.out 2).trans rfl; have hcz85_3 : w83.cell? ⟨gb144, 3, none⟩ = some (.int .i64 0) := (blk_cell BK144.out 3).trans rfl; have hfz85_0 := blk_frozen BK144.out 0; have hfz85_1 := blk_frozen BK144.out 1; have hfz85_2 := blk_frozen BK144.out 2; have hfz85_3 := blk_frozen BK144.out 3) | ((with_reducible refine gate_callee (f := 43) rfl ?_); refine goesL_ (some 84) rfl rfl Try.func43 (by kernel_rfl) rfl #[.int .i64 ((rd_T70 l0_2 x78_3).f0), .int .i64 0, .int .i64 1000000000] rfl (by (try simp only [List.map_toArray, List.map_cons, List.map_nil]); first | done | rfl | (simp only [List.length_drop, List.length_take]; rfl)) ?_; (with_reducible refine (impl_in.calls ((rd_T70 l0_2 x78_3).f0) 0 1000000000 true _ A62.out).mono ?_); rintro e w' ⟨rfl, ⟨nd, rfl⟩⟩; refine ⟨_, rfl, ?_⟩; obtain ⟨Ao86, eo86⟩ := Ms.R_map HO_3.out; subst eo86) | ((with_reducible refine gate_dst (N := 68) rfl ?_); (try (refine gate_guard (by rfl) ?_; dsimp only)); refine Ms.look_event (T := 75) (d := Kd.int .i64) (e := 3) (base := w.heap.size) (ok := fun _ => True) (l := x3_3) ((rd_T70 l0_2 x78_3).f0) false (by rfl) rfl (Sets.KeyKind.int Try.underlying3) Try.underlying75 (fun w => by kernel_rfl) rfl (by first | rfl | (go_simp; done) | (go_simp; rfl)) Ms.now A64.out ?_) | ((with_reducible refine gate_dst (N := 90) rfl ?_); (try (refine gate_guard (by rfl) ?_; dsimp only)); refine Ms.look_event (T := 75) (d := Kd.int .i64) (e := 3) (base := w.heap.size) (ok := fun _ => True) (l := x3_3) ((rd_T70 l0_2 x78_3).f0) false (by rfl) rfl (Sets.KeyKind.int Try.underlying3) Try.underlying75 (fun w => by kernel_rfl) rfl (by first | rfl | (go_simp; done) | (go_simp; rfl)) Ms.now A64.out ?_) | (go_at_call 44; (with_reducible refine (impl_skillOk.calls ((rd_T70 l0_2 x78_3).f1) true _ A70.out).mono ?_); rintro e w' ⟨rfl, ⟨nd, rfl⟩⟩) | (go_at_call 43; (with_reducible refine (impl_in.calls ((rd_T70 l0_2 x78_3).f2) 0 9 true _ A72.out).mono ?_); rintro e w' ⟨rfl, ⟨nd, rfl⟩⟩; have hcz87_0 : w83.cell? ⟨gb121, 0, none⟩ = some (.int .i64 a0_0) := (blk_cell BK121.out 0).trans rfl; have hcz87_1 : w83.cell? ⟨gb121, 1, none⟩ = some (.slice A0_1 l0_1.length c0_1) := (blk_cell BK121.out 1).trans rfl; have hcz87_2 : w83.cell? ⟨gb121, 2, none⟩ = some (.slice (some ad143) l0_2.length c0_2) := (blk_cell BK121.out 2).trans rfl; have hcz87_3 : w83.cell? ⟨gb121, 3, none⟩ = some (.int .i64 a0_3) := (blk_cell BK121.out 3).trans rfl; have hfz87_0 := blk_frozen BK121.out 0; have hfz87_1 := blk_frozen BK121.out 1; have hfz87_2 := blk_frozen BK121.out 2; have hfz87_3 := blk_frozen BK121.out 3) | (go_at_call 43; (with_reducible refine (impl_in.calls ((rd_T70 l0_2 x78_3).f3) 0 a0_0 false _ A74.out).mono ?_); rintro e w' ⟨rfl, ⟨nd, rfl⟩⟩))
                 go_ret
                 exact ⟨by first | rfl | (simp [errW_none, errW_some] <;> rfl) | (simp [*, errW_none, errW_some] <;> rfl), belowNow⟩
               ·replace c73 := Bool.eq_false_iff.mpr c73
                subst c73
                have H1 : (some false) = some r := by rw [if_neg (show ¬ (false = true) by decide)] at H; exact H
                clear H
                have H := H1
                clear H1
                obtain rfl := Option.some.inj H
                have p143 : 0 ≤ (x78_3 : Int) := of_decide_eq_true (by first | (with_reducible assumption) | assumption)
                have q143 : x78_3 < (l0_2.length : Int) := of_decide_eq_true (by first | (with_reducible assumption) | assumption)
                obtain ⟨ad143, e143, hx143_0, hx143_1, hx143_2, hx143_3⟩ := at_T70 HR0_2.out x78_3 p143 q143
                cases e143
                replace hx143_0 := (HB.out.cell (World.block_lt_of_cell? w _ hx143_0)).trans hx143_0
                replace hx143_1 := (HB.out.cell (World.block_lt_of_cell? w _ hx143_1)).trans hx143_1
                replace hx143_2 := (HB.out.cell (World.block_lt_of_cell? w _ hx143_2)).trans hx143_2
                replace hx143_3 := (HB.out.cell (World.block_lt_of_cell? w _ hx143_3)).trans hx143_3
                replace p143 := eq_true p143
                replace q143 := eq_true q143
                go_wp2_with (first | ((with_reducible refine gate_dst (N := 7) rfl ?_); (try (refine gate_guard (by rfl) ?_; dsimp only)); refine box_event ?hg (N := 7) ?hd (cs := #[.int .i64 0, .int .i64 0, .int .i64 0, .int .i64 0]) (t := 70) ?hr ?_; (case hd => rfl); (case hg => rfl); (case hr => first | (go_simp; done) | (go_simp; rfl)); intro gb144 hg w88 hbox hb; have n0_ := Aside0.mk (Ms.R_below (by (with_reducible repeat (first | apply Ms.R_alloc | apply Ms.R_drewN | apply Ms.R_drew)); exact HO_3.out) hb); have n1_ := Aside0.mk (blkStep (g := gb121) hb); have n2_ := Aside0.mk (below_step belowNow hb); have n3_ := Aside0.mk (hbox); have n4_ := Aside0.mk ((by rw [hg]; exact (below_size belowNow) : w.heap.size ≤ gb144)); have n5_ := n4_; have n6_ := Aside0.mk ((by rw [hg]; exact Nat.ne_of_lt (blkLt (g := gb121)) : gb121 ≠ gb144)); have n7_ := Aside0.mk ((by rw [hg]; exact Nat.ne_of_gt (blkLt (g := gb121)) : gb144 ≠ gb121)); clear HO_3; clear BK121; clear HB; have HO_3 := n0_; have BK121 := n1_; have HB := n2_; have BK144 := n3_; have GW144 := n4_; have GE144 := n5_; have NB121_144 := n6_; have NB144_121 := n7_; clear n0_ n1_ n2_ n3_ n4_ n5_ n6_ n7_; clear hb hbox hg; have hnb89 := NB144_121.out; have hnc89 := NB121_144.out; have hcz90_0 : w88.cell? ⟨gb144, 0, none⟩ = some (.int .i64 0) := (blk_cell BK144.out 0).trans rfl; have hcz90_1 : w88.cell? ⟨gb144, 1, none⟩ = some (.int .i64 0) := (blk_cell BK144.out 1).trans rfl; have hcz90_2 : w88.cell? ⟨gb144, 2, none⟩ = some (.int .i64 0) := (blk_cell BK144.out 2).trans rfl; have hcz90_3 : w88.cell? ⟨gb144, 3, none⟩ = some (.int .i64 0) := (blk_cell BK144.out 3).trans rfl; have hfz90_0 := blk_frozen BK144.out 0; have hfz90_1 := blk_frozen BK144.out 1; have hfz90_2 := blk_frozen BK144.out 2; have hfz90_3 := blk_frozen BK144.out 3) | ((with_reducible refine gate_callee (f := 43) rfl ?_); refine goesL_ (some 84) rfl rfl Try.func43 (by kernel_rfl) rfl #[.int .i64 ((rd_T70 l0_2 x78_3).f0), .int .i64 0, .int .i64 1000000000] rfl (by (try simp only [List.map_toArray, List.map_cons, List.map_nil]); first | done | rfl | (simp only [List.length_drop, List.length_take]; rfl)) ?_; (with_reducible refine (impl_in.calls ((rd_T70 l0_2 x78_3).f0) 0 1000000000 true _ A62.out).mono ?_); rintro e w' ⟨rfl, ⟨nd, rfl⟩⟩; refine ⟨_, rfl, ?_⟩; obtain ⟨Ao91, eo91⟩ := Ms.R_map HO_3.out; subst eo91) | ((with_reducible refine gate_dst (N := 68) rfl ?_); (try (refine gate_guard (by rfl) ?_; dsimp only)); refine Ms.look_event (T := 75) (d := Kd.int .i64) (e := 3) (base := w.heap.size) (ok := fun _ => True) (l := x3_3) ((rd_T70 l0_2 x78_3).f0) false (by rfl) rfl (Sets.KeyKind.int Try.underlying3) Try.underlying75 (fun w => by kernel_rfl) rfl (by first | rfl | (go_simp; done) | (go_simp; rfl)) Ms.now A64.out ?_) | ((with_reducible refine gate_dst (N := 90) rfl ?_); (try (refine gate_guard (by rfl) ?_; dsimp only)); refine Ms.look_event (T := 75) (d := Kd.int .i64) (e := 3) (base := w.heap.size) (ok := fun _ => True) (l := x3_3) ((rd_T70 l0_2 x78_3).f0) false (by rfl) rfl (Sets.KeyKind.int Try.underlying3) Try.underlying75 (fun w => by kernel_rfl) rfl (by first | rfl | (go_simp; done) | (go_simp; rfl)) Ms.now A64.out ?_) | (go_at_call 44; (with_reducible refine (impl_skillOk.calls ((rd_T70 l0_2 x78_3).f1) true _ A70.out).mono ?_); rintro e w' ⟨rfl, ⟨nd, rfl⟩⟩) | (go_at_call 43; (with_reducible refine (impl_in.calls ((rd_T70 l0_2 x78_3).f2) 0 9 false _ A72.out).mono ?_); rintro e w' ⟨rfl, ⟨nd, rfl⟩⟩))
                go_ret
                exact ⟨by first | rfl | (simp [errW_none, errW_some] <;> rfl) | (simp [*, errW_none, errW_some] <;> rfl), belowNow⟩
              ·replace c71 := Bool.eq_false_iff.mpr c71
               subst c71
               have H1 : (some false) = some r := by rw [if_neg (show ¬ (false = true) by decide)] at H; exact H
               clear H
               have H := H1
               clear H1
               obtain rfl := Option.some.inj H
               have p143 : 0 ≤ (x78_3 : Int) := of_decide_eq_true (by first | (with_reducible assumption) | assumption)
               have q143 : x78_3 < (l0_2.length : Int) := of_decide_eq_true (by first | (with_reducible assumption) | assumption)
               obtain ⟨ad143, e143, hx143_0, hx143_1, hx143_2, hx143_3⟩ := at_T70 HR0_2.out x78_3 p143 q143
               cases e143
               replace hx143_0 := (HB.out.cell (World.block_lt_of_cell? w _ hx143_0)).trans hx143_0
               replace hx143_1 := (HB.out.cell (World.block_lt_of_cell? w _ hx143_1)).trans hx143_1
               replace hx143_2 := (HB.out.cell (World.block_lt_of_cell? w _ hx143_2)).trans hx143_2
               replace hx143_3 := (HB.out.cell (World.block_lt_of_cell? w _ hx143_3)).trans hx143_3
               replace p143 := eq_true p143
               replace q143 := eq_true q143
               go_wp2_with (first | ((with_reducible refine gate_dst (N := 7) rfl ?_); (try (refine gate_guard (by rfl) ?_; dsimp only)); refine box_event ?hg (N := 7) ?hd (cs := #[.int .i64 0, .int .i64 0, .int .i64 0, .int .i64 0]) (t := 70) ?hr ?_; (case hd => rfl); (case hg => rfl); (case hr => first | (go_simp; done) | (go_simp; rfl)); intro gb144 hg w92 hbox hb; have n0_ := Aside0.mk (Ms.R_below (by (with_reducible repeat (first | apply Ms.R_alloc | apply Ms.R_drewN | apply Ms.R_drew)); exact HO_3.out) hb); have n1_ := Aside0.mk (blkStep (g := gb121) hb); have n2_ := Aside0.mk (below_step belowNow hb); have n3_ := Aside0.mk (hbox); have n4_ := Aside0.mk ((by rw [hg]; exact (below_size belowNow) : w.heap.size ≤ gb144)); have n5_ := n4_; have n6_ := Aside0.mk ((by rw [hg]; exact Nat.ne_of_lt (blkLt (g := gb121)) : gb121 ≠ gb144)); have n7_ := Aside0.mk ((by rw [hg]; exact Nat.ne_of_gt (blkLt (g := gb121)) : gb144 ≠ gb121)); clear HO_3; clear BK121; clear HB; have HO_3 := n0_; have BK121 := n1_; have HB := n2_; have BK144 := n3_; have GW144 := n4_; have GE144 := n5_; have NB121_144 := n6_; have NB144_121 := n7_; clear n0_ n1_ n2_ n3_ n4_ n5_ n6_ n7_; clear hb hbox hg; have hnb93 := NB144_121.out; have hnc93 := NB121_144.out; have hcz94_0 : w92.cell? ⟨gb144, 0, none⟩ = some (.int .i64 0) := (blk_cell BK144.out 0).trans rfl; have hcz94_1 : w92.cell? ⟨gb144, 1, none⟩ = some (.int .i64 0) := (blk_cell BK144.out 1).trans rfl; have hcz94_2 : w92.cell? ⟨gb144, 2, none⟩ = some (.int .i64 0) := (blk_cell BK144.out 2).trans rfl; have hcz94_3 : w92.cell? ⟨gb144, 3, none⟩ = some (.int .i64 0) := (blk_cell BK144.out 3).trans rfl; have hfz94_0 := blk_frozen BK144.out 0; have hfz94_1 := blk_frozen BK144.out 1; have hfz94_2 := blk_frozen BK144.out 2; have hfz94_3 := blk_frozen BK144.out 3) | ((with_reducible refine gate_callee (f := 43) rfl ?_); refine goesL_ (some 84) rfl rfl Try.func43 (by kernel_rfl) rfl #[.int .i64 ((rd_T70 l0_2 x78_3).f0), .int .i64 0, .int .i64 1000000000] rfl (by (try simp only [List.map_toArray, List.map_cons, List.map_nil]); first | done | rfl | (simp only [List.length_drop, List.length_take]; rfl)) ?_; (with_reducible refine (impl_in.calls ((rd_T70 l0_2 x78_3).f0) 0 1000000000 true _ A62.out).mono ?_); rintro e w' ⟨rfl, ⟨nd, rfl⟩⟩; refine ⟨_, rfl, ?_⟩; obtain ⟨Ao95, eo95⟩ := Ms.R_map HO_3.out; subst eo95) | ((with_reducible refine gate_dst (N := 68) rfl ?_); (try (refine gate_guard (by rfl) ?_; dsimp only)); refine Ms.look_event (T := 75) (d := Kd.int .i64) (e := 3) (base := w.heap.size) (ok := fun _ => True) (l := x3_3) ((rd_T70 l0_2 x78_3).f0) false (by rfl) rfl (Sets.KeyKind.int Try.underlying3) Try.underlying75 (fun w => by kernel_rfl) rfl (by first | rfl | (go_simp; done) | (go_simp; rfl)) Ms.now A64.out ?_) | ((with_reducible refine gate_dst (N := 90) rfl ?_); (try (refine gate_guard (by rfl) ?_; dsimp only)); refine Ms.look_event (T := 75) (d := Kd.int .i64) (e := 3) (base := w.heap.size) (ok := fun _ => True) (l := x3_3) ((rd_T70 l0_2 x78_3).f0) false (by rfl) rfl (Sets.KeyKind.int Try.underlying3) Try.underlying75 (fun w => by kernel_rfl) rfl (by first | rfl | (go_simp; done) | (go_simp; rfl)) Ms.now A64.out ?_) | (go_at_call 44; (with_reducible refine (impl_skillOk.calls ((rd_T70 l0_2 x78_3).f1) false _ A70.out).mono ?_); rintro e w' ⟨rfl, ⟨nd, rfl⟩⟩))
               go_ret
               exact ⟨by first | rfl | (simp [errW_none, errW_some] <;> rfl) | (simp [*, errW_none, errW_some] <;> rfl), belowNow⟩
            ·replace c63 := Bool.eq_false_iff.mpr c63
             subst c63
             have H1 : (some false) = some r := by rw [if_neg (show ¬ (false = true) by decide)] at H; exact H
             clear H
             have H := H1
             clear H1
             obtain rfl := Option.some.inj H
             have p143 : 0 ≤ (x78_3 : Int) := of_decide_eq_true (by first | (with_reducible assumption) | assumption)
             have q143 : x78_3 < (l0_2.length : Int) := of_decide_eq_true (by first | (with_reducible assumption) | assumption)
             obtain ⟨ad143, e143, hx143_0, hx143_1, hx143_2, hx143_3⟩ := at_T70 HR0_2.out x78_3 p143 q143
             cases e143
             replace hx143_0 := (HB.out.cell (World.block_lt_of_cell? w _ hx143_0)).trans hx143_0
             replace hx143_1 := (HB.out.cell (World.block_lt_of_cell? w _ hx143_1)).trans hx143_1
             replace hx143_2 := (HB.out.cell (World.block_lt_of_cell? w _ hx143_2)).trans hx143_2
             replace hx143_3 := (HB.out.cell (World.block_lt_of_cell? w _ hx143_3)).trans hx143_3
             replace p143 := eq_true p143
             replace q143 := eq_true q143
             go_wp2_with (first | ((with_reducible refine gate_dst (N := 7) rfl ?_); (try (refine gate_guard (by rfl) ?_; dsimp only)); refine box_event ?hg (N := 7) ?hd (cs := #[.int .i64 0, .int .i64 0, .int .i64 0, .int .i64 0]) (t := 70) ?hr ?_; (case hd => rfl); (case hg => rfl); (case hr => first | (go_simp; done) | (go_simp; rfl)); intro gb144 hg w96 hbox hb; have n0_ := Aside0.mk (Ms.R_below (by (with_reducible repeat (first | apply Ms.R_alloc | apply Ms.R_drewN | apply Ms.R_drew)); exact HO_3.out) hb); have n1_ := Aside0.mk (blkStep (g := gb121) hb); have n2_ := Aside0.mk (below_step belowNow hb); have n3_ := Aside0.mk (hbox); have n4_ := Aside0.mk ((by rw [hg]; exact (below_size belowNow) : w.heap.size ≤ gb144)); have n5_ := n4_; have n6_ := Aside0.mk ((by rw [hg]; exact Nat.ne_of_lt (blkLt (g := gb121)) : gb121 ≠ gb144)); have n7_ := Aside0.mk ((by rw [hg]; exact Nat.ne_of_gt (blkLt (g := gb121)) : gb144 ≠ gb121)); clear HO_3; clear BK121; clear HB; have HO_3 := n0_; have BK121 := n1_; have HB := n2_; have BK144 := n3_; have GW144 := n4_; have GE144 := n5_; have NB121_144 := n6_; have NB144_121 := n7_; clear n0_ n1_ n2_ n3_ n4_ n5_ n6_ n7_; clear hb hbox hg; have hnb97 := NB144_121.out; have hnc97 := NB121_144.out; have hcz98_0 : w96.cell? ⟨gb144, 0, none⟩ = some (.int .i64 0) := (blk_cell BK144.out 0).trans rfl; have hcz98_1 : w96.cell? ⟨gb144, 1, none⟩ = some (.int .i64 0) := (blk_cell BK144.out 1).trans rfl; have hcz98_2 : w96.cell? ⟨gb144, 2, none⟩ = some (.int .i64 0) := (blk_cell BK144.out 2).trans rfl; have hcz98_3 : w96.cell? ⟨gb144, 3, none⟩ = some (.int .i64 0) := (blk_cell BK144.out 3).trans rfl; have hfz98_0 := blk_frozen BK144.out 0; have hfz98_1 := blk_frozen BK144.out 1; have hfz98_2 := blk_frozen BK144.out 2; have hfz98_3 := blk_frozen BK144.out 3) | ((with_reducible refine gate_callee (f := 43) rfl ?_); refine goesL_ (some 84) rfl rfl Try.func43 (by kernel_rfl) rfl #[.int .i64 ((rd_T70 l0_2 x78_3).f0), .int .i64 0, .int .i64 1000000000] rfl (by (try simp only [List.map_toArray, List.map_cons, List.map_nil]); first | done | rfl | (simp only [List.length_drop, List.length_take]; rfl)) ?_; (with_reducible refine (impl_in.calls ((rd_T70 l0_2 x78_3).f0) 0 1000000000 false _ A62.out).mono ?_); rintro e w' ⟨rfl, ⟨nd, rfl⟩⟩; refine ⟨_, rfl, ?_⟩))
             go_ret
             exact ⟨by first | rfl | (simp [errW_none, errW_some] <;> rfl) | (simp [*, errW_none, errW_some] <;> rfl), belowNow⟩
           ·rw [if_neg c61] at H
            exact absurd H (by simp)
          ·rw [if_neg c60] at H
           exact absurd H (by simp)
         ·rw [if_neg c59] at H
          have c59b0 : decide (x78_3 < (l0_2.length : Int)) = false := decide_eq_false c59
          clear c59
          replace H := Option.bind_eq_some_iff.mp H
          obtain ⟨⟨t140, t141, t142⟩, A990, H⟩ := H
          replace H : (some (!t142)) = some r := H
          have A99 := Aside0.mk A990
          clear A990
          obtain rfl := Option.some.inj H
          have hcz100_0 : wr.cell? ⟨gb121, 0, none⟩ = some (.int .i64 a0_0) := (blk_cell BK121.out 0).trans rfl
          have hcz100_1 : wr.cell? ⟨gb121, 1, none⟩ = some (.slice A0_1 l0_1.length c0_1) := (blk_cell BK121.out 1).trans rfl
          have hcz100_2 : wr.cell? ⟨gb121, 2, none⟩ = some (.slice A0_2 l0_2.length c0_2) := (blk_cell BK121.out 2).trans rfl
          have hcz100_3 : wr.cell? ⟨gb121, 3, none⟩ = some (.int .i64 a0_3) := (blk_cell BK121.out 3).trans rfl
          have hfz100_0 := blk_frozen BK121.out 0
          have hfz100_1 := blk_frozen BK121.out 1
          have hfz100_2 := blk_frozen BK121.out 2
          have hfz100_3 := blk_frozen BK121.out 3
          go_wp2_with (first | ((with_reducible refine gate_callee (f := 45) rfl ?_); refine goesL_ (some 118) rfl rfl Try.func45 (by kernel_rfl) rfl #[.agg #[.int .i64 a0_0, .slice A0_1 l0_1.length c0_1, .slice A0_2 l0_2.length c0_2, .int .i64 a0_3]] rfl (by (try simp only [List.map_toArray, List.map_cons, List.map_nil]); first | done | rfl | (simp only [List.length_drop, List.length_take]; rfl)) ?_; (with_reducible refine (impl_Desk_next.calls k3 a0_0 _ _ l0_1 _ _ l0_2 a0_3 t140 t141 t142 _ ?side1 ?side2 ?side3 ?side4 A99.out).mono ?_); (case side1 => repeat (first | exact (Kd.C_below HR0_1.out HB.out) | (with_reducible refine Kd.C_alloc ?_ _) | (with_reducible refine Kd.C_drewN ?_ _) | (with_reducible refine Kd.C_drew ?_))); (case side2 => exact HC0_1.out); (case side3 => repeat (first | exact (Kd.C_below HR0_2.out HB.out) | (with_reducible refine Kd.C_alloc ?_ _) | (with_reducible refine Kd.C_drewN ?_ _) | (with_reducible refine Kd.C_drew ?_))); (case side4 => exact HC0_2.out); rintro e w101 ⟨rfl, hb⟩; refine ⟨_, rfl, ?_⟩; have n0_ := Aside0.mk (Ms.R_below (by (with_reducible repeat (first | apply Ms.R_alloc | apply Ms.R_drewN | apply Ms.R_drew)); exact HO_3.out) hb); have n1_ := Aside0.mk (blkStep (g := gb121) hb); have n2_ := Aside0.mk (below_step belowNow hb); clear HO_3; clear BK121; clear HB; have HO_3 := n0_; have BK121 := n1_; have HB := n2_; clear n0_ n1_ n2_; (try clear hb); (try clear hb2); (try clear hk); (try clear hi)))
          go_ret
          exact ⟨by first | rfl | (simp [errW_none, errW_some] <;> rfl) | (simp [*, errW_none, errW_some] <;> rfl), belowNow⟩

end Go.Proofs.Ytllgjohkkahfgaa.PFnTurns8
