-- laid by a program of this session (wip/lay/lay.py); Lean checks it
import Derived.Test.YtodehmbgcncnhaaVFnReservedShort
import Derived.Test.YtodehmbgcncnhaaPFnReservedx0
import Derived.Test.YtodehmbgcncnhaaPFnReservedx4
import Derived.Test.YtodehmbgcncnhaaPFnReservedx6
namespace Go.Proofs.Ytodehmbgcncnhaa.PFnReserved
-- squashed
open Go.RowKit Go.Proofs.YtodehmbgcncnhaaW.PrintWords Go.Proofs.YtodehmbgcncnhaaW.PrintLast Go.Proofs.YtodehmbgcncnhaaW.PrintMore Go.Proofs.Ytodehmbgcncnhaa.Short
attribute [local go_sem] max2_int min2_int max_two min_two max_three min_three max_four min_four   -- for this text's walks alone
set_option linter.unusedVariables false
set_option linter.unusedSimpArgs false

/-! ### spec_Reserve: function 25 -/
mutual
def spec_Reserve.j0 : Nat → List (S60) → Int → Int → Int → Int → Bool → Int → Int → Option (Int × Int × Int × Bool)
 | 0, _, _, _, _, _, _, _, _ => none
 | k + 1, x1, x2, x3, x4, x13, x37, x150000, x150001 => if x37 = true then (some (x150000, x150001, 0, false)) else (if 0 ≤ x13 then (if x13 < (x1.length : Int) then (spec_Reserve.l0 k x1 x2 x3 x4 (wrap64 (x150000 - x150001)) ((rd_T60 x1 x13).f4) x3 x150000 x150001) else (none)) else (none))
def spec_Reserve.j3 : Nat → Int → Int → Int → Int → Int → Int → Option (Int × Int × Int × Bool)
 | 0, _, _, _, _, _, _ => none
 | k + 1, x3, x4, x16, x17, x150000, x150001 => if (wrap64 (x17 - x3)) > x4 then (spec_Reserve.j4 k x3 x16 x4 x150000 x150001) else (spec_Reserve.j4 k x3 x16 (wrap64 (x17 - x3)) x150000 x150001)
def spec_Reserve.j4 : Nat → Int → Int → Int → Int → Int → Option (Int × Int × Int × Bool)
 | 0, _, _, _, _, _ => none
 | k + 1, x3, x16, x18, x150000, x150001 => if (wrap64 (x3 + x18)) > 1000000000 then (if (wrap64 (1000000000 - x3)) < 1 then (some (x150000, x150001, 0, false)) else (some (x150000, wrap64 (x150001 + x16), wrap64 (1000000000 - x3), true))) else (if x18 < 1 then (some (x150000, x150001, 0, false)) else (some (x150000, wrap64 (x150001 + x16), x18, true)))
def spec_Reserve.l0 : Nat → List (S60) → Int → Int → Int → Int → Int → Int → Int → Int → Option (Int × Int × Int × Bool)
 | 0, _, _, _, _, _, _, _, _, _ => none
 | k + 1, x1, x2, x3, x4, x15, x16, x17, x150000, x150001 => if x17 < (wrap64 (x3 + x4)) then (spec_Reserve.j2 k x1 x2 x3 x4 x15 x16 x17 (decide (x17 < 1000000000)) x150000 x150001) else (spec_Reserve.j2 k x1 x2 x3 x4 x15 x16 x17 false x150000 x150001)
def spec_Reserve.j2 : Nat → List (S60) → Int → Int → Int → Int → Int → Int → Bool → Int → Int → Option (Int × Int × Int × Bool)
 | 0, _, _, _, _, _, _, _, _, _, _ => none
 | k + 1, x1, x2, x3, x4, x15, x16, x17, x58, x150000, x150001 => if x58 = true then ((spec_TariffAt.f k x1 x2 x17).bind fun bt156 => (if 0 ≤ bt156.1 then (if bt156.1 < (x1.length : Int) then (if (wrap64 (x16 + ((rd_T60 x1 bt156.1).f3))) > x15 then (spec_Reserve.j3 k x3 x4 x16 x17 x150000 x150001) else (spec_Reserve.l0 k x1 x2 x3 x4 x15 (wrap64 (x16 + ((rd_T60 x1 bt156.1).f3))) (wrap64 (x17 + ((rd_T60 x1 bt156.1).f2))) x150000 x150001)) else (none)) else (none))) else (spec_Reserve.j3 k x3 x4 x16 x17 x150000 x150001)
end
def spec_Reserve.f (k : Nat) (a0_0 : Int) (a0_1 : Int) (l1 : List (S60)) (a2 : Int) (a3 : Int) (a4 : Int) : Option (Int × Int × Int × Bool) := (spec_TariffAt.f k l1 a2 a3).bind fun bt151 => (if bt151.2 = true then ((spec_l9Purse.f a0_0 a0_1).bind fun t153 => (if t153 = true then ((spec_l1In.f a4 1 86400).bind fun t154 => (spec_Reserve.j0 k l1 a2 a3 a4 bt151.1 (!t154) a0_0 a0_1)) else (spec_Reserve.j0 k l1 a2 a3 a4 bt151.1 true a0_0 a0_1))) else (spec_Reserve.j0 k l1 a2 a3 a4 bt151.1 true a0_0 a0_1))
theorem spec_Reserve.mono_l : ∀ k, (∀ y0 y1 y2 y3 y4 y5 y6 y7, LeO (spec_Reserve.j0 k y0 y1 y2 y3 y4 y5 y6 y7) (spec_Reserve.j0 (k + 1) y0 y1 y2 y3 y4 y5 y6 y7)) ∧ (∀ y0 y1 y2 y3 y4 y5, LeO (spec_Reserve.j3 k y0 y1 y2 y3 y4 y5) (spec_Reserve.j3 (k + 1) y0 y1 y2 y3 y4 y5)) ∧ (∀ y0 y1 y2 y3 y4, LeO (spec_Reserve.j4 k y0 y1 y2 y3 y4) (spec_Reserve.j4 (k + 1) y0 y1 y2 y3 y4)) ∧ (∀ y0 y1 y2 y3 y4 y5 y6 y7 y8, LeO (spec_Reserve.l0 k y0 y1 y2 y3 y4 y5 y6 y7 y8) (spec_Reserve.l0 (k + 1) y0 y1 y2 y3 y4 y5 y6 y7 y8)) ∧ (∀ y0 y1 y2 y3 y4 y5 y6 y7 y8 y9, LeO (spec_Reserve.j2 k y0 y1 y2 y3 y4 y5 y6 y7 y8 y9) (spec_Reserve.j2 (k + 1) y0 y1 y2 y3 y4 y5 y6 y7 y8 y9))
 | 0 => ⟨fun _ _ _ _ _ _ _ _ r h => by simp [spec_Reserve.j0] at h, fun _ _ _ _ _ _ r h => by simp [spec_Reserve.j3] at h, fun _ _ _ _ _ r h => by simp [spec_Reserve.j4] at h, fun _ _ _ _ _ _ _ _ _ r h => by simp [spec_Reserve.l0] at h, fun _ _ _ _ _ _ _ _ _ _ r h => by simp [spec_Reserve.j2] at h⟩
 | k + 1 => by
  obtain ⟨ih0, ih1, ih2, ih3, ih4⟩ := spec_Reserve.mono_l k
  refine ⟨?_, ?_, ?_, ?_, ?_⟩
  ·intro y0 y1 y2 y3 y4 y5 y6 y7
   unfold spec_Reserve.j0
   repeat' first
   | (with_reducible exact ih0 _ _ _ _ _ _ _ _)
   | (with_reducible exact ih1 _ _ _ _ _ _)
   | (with_reducible exact ih2 _ _ _ _ _)
   | (with_reducible exact ih3 _ _ _ _ _ _ _ _ _)
   | (with_reducible exact ih4 _ _ _ _ _ _ _ _ _ _)
   | (with_reducible exact spec_TariffAt.mono _ _ _ _)
   | (with_reducible exact LeO.refl _)
   | (with_reducible exact LeO.none _)
   | (with_reducible refine LeO.ite ?_ ?_)
   | (with_reducible refine LeO.bind ?_ (fun _ => ?_))
   | exact ih0 _ _ _ _ _ _ _ _
   | exact ih1 _ _ _ _ _ _
   | exact ih2 _ _ _ _ _
   | exact ih3 _ _ _ _ _ _ _ _ _
   | exact ih4 _ _ _ _ _ _ _ _ _ _
   | exact spec_TariffAt.mono _ _ _ _
   | exact LeO.none _
   | refine LeO.ite ?_ ?_
   | refine LeO.bind ?_ (fun _ => ?_)
  ·intro y0 y1 y2 y3 y4 y5
   unfold spec_Reserve.j3
   repeat' first
   | (with_reducible exact ih0 _ _ _ _ _ _ _ _)
   | (with_reducible exact ih1 _ _ _ _ _ _)
   | (with_reducible exact ih2 _ _ _ _ _)
   | (with_reducible exact ih3 _ _ _ _ _ _ _ _ _)
   | (with_reducible exact ih4 _ _ _ _ _ _ _ _ _ _)
   | (with_reducible exact spec_TariffAt.mono _ _ _ _)
   | (with_reducible exact LeO.refl _)
   | (with_reducible exact LeO.none _)
   | (with_reducible refine LeO.ite ?_ ?_)
   | (with_reducible refine LeO.bind ?_ (fun _ => ?_))
   | exact ih0 _ _ _ _ _ _ _ _
   | exact ih1 _ _ _ _ _ _
   | exact ih2 _ _ _ _ _
   | exact ih3 _ _ _ _ _ _ _ _ _
   | exact ih4 _ _ _ _ _ _ _ _ _ _
   | exact spec_TariffAt.mono _ _ _ _
   | exact LeO.none _
   | refine LeO.ite ?_ ?_
   | refine LeO.bind ?_ (fun _ => ?_)
  ·intro y0 y1 y2 y3 y4
   unfold spec_Reserve.j4
   repeat' first
   | (with_reducible exact ih0 _ _ _ _ _ _ _ _)
   | (with_reducible exact ih1 _ _ _ _ _ _)
   | (with_reducible exact ih2 _ _ _ _ _)
   | (with_reducible exact ih3 _ _ _ _ _ _ _ _ _)
   | (with_reducible exact ih4 _ _ _ _ _ _ _ _ _ _)
   | (with_reducible exact spec_TariffAt.mono _ _ _ _)
   | (with_reducible exact LeO.refl _)
   | (with_reducible exact LeO.none _)
   | (with_reducible refine LeO.ite ?_ ?_)
   | (with_reducible refine LeO.bind ?_ (fun _ => ?_))
   | exact ih0 _ _ _ _ _ _ _ _
   | exact ih1 _ _ _ _ _ _
   | exact ih2 _ _ _ _ _
   | exact ih3 _ _ _ _ _ _ _ _ _
   | exact ih4 _ _ _ _ _ _ _ _ _ _
   | exact spec_TariffAt.mono _ _ _ _
   | exact LeO.none _
   | refine LeO.ite ?_ ?_
   | refine LeO.bind ?_ (fun _ => ?_)
  ·intro y0 y1 y2 y3 y4 y5 y6 y7 y8
   unfold spec_Reserve.l0
   repeat' first
   | (with_reducible exact ih0 _ _ _ _ _ _ _ _)
   | (with_reducible exact ih1 _ _ _ _ _ _)
   | (with_reducible exact ih2 _ _ _ _ _)
   | (with_reducible exact ih3 _ _ _ _ _ _ _ _ _)
   | (with_reducible exact ih4 _ _ _ _ _ _ _ _ _ _)
   | (with_reducible exact spec_TariffAt.mono _ _ _ _)
   | (with_reducible exact LeO.refl _)
   | (with_reducible exact LeO.none _)
   | (with_reducible refine LeO.ite ?_ ?_)
   | (with_reducible refine LeO.bind ?_ (fun _ => ?_))
   | exact ih0 _ _ _ _ _ _ _ _
   | exact ih1 _ _ _ _ _ _
   | exact ih2 _ _ _ _ _
   | exact ih3 _ _ _ _ _ _ _ _ _
   | exact ih4 _ _ _ _ _ _ _ _ _ _
   | exact spec_TariffAt.mono _ _ _ _
   | exact LeO.none _
   | refine LeO.ite ?_ ?_
   | refine LeO.bind ?_ (fun _ => ?_)
  ·intro y0 y1 y2 y3 y4 y5 y6 y7 y8 y9
   unfold spec_Reserve.j2
   repeat' first
   | (with_reducible exact ih0 _ _ _ _ _ _ _ _)
   | (with_reducible exact ih1 _ _ _ _ _ _)
   | (with_reducible exact ih2 _ _ _ _ _)
   | (with_reducible exact ih3 _ _ _ _ _ _ _ _ _)
   | (with_reducible exact ih4 _ _ _ _ _ _ _ _ _ _)
   | (with_reducible exact spec_TariffAt.mono _ _ _ _)
   | (with_reducible exact LeO.refl _)
   | (with_reducible exact LeO.none _)
   | (with_reducible refine LeO.ite ?_ ?_)
   | (with_reducible refine LeO.bind ?_ (fun _ => ?_))
   | exact ih0 _ _ _ _ _ _ _ _
   | exact ih1 _ _ _ _ _ _
   | exact ih2 _ _ _ _ _
   | exact ih3 _ _ _ _ _ _ _ _ _
   | exact ih4 _ _ _ _ _ _ _ _ _ _
   | exact spec_TariffAt.mono _ _ _ _
   | exact LeO.none _
   | refine LeO.ite ?_ ?_
   | refine LeO.bind ?_ (fun _ => ?_)
theorem spec_Reserve.mono : ∀ a0 a1 a2 a3 a4 a5 k, LeO (spec_Reserve.f k a0 a1 a2 a3 a4 a5) (spec_Reserve.f (k + 1) a0 a1 a2 a3 a4 a5) := by
 intro a0 a1 a2 a3 a4 a5 k
 obtain ⟨ih0, ih1, ih2, ih3, ih4⟩ := spec_Reserve.mono_l k
 unfold spec_Reserve.f
 repeat' first
   | (with_reducible exact ih0 _ _ _ _ _ _ _ _)
   | (with_reducible exact ih1 _ _ _ _ _ _)
   | (with_reducible exact ih2 _ _ _ _ _)
   | (with_reducible exact ih3 _ _ _ _ _ _ _ _ _)
   | (with_reducible exact ih4 _ _ _ _ _ _ _ _ _ _)
   | (with_reducible exact spec_TariffAt.mono _ _ _ _)
   | (with_reducible exact LeO.refl _)
   | (with_reducible exact LeO.none _)
   | (with_reducible refine LeO.ite ?_ ?_)
   | (with_reducible refine LeO.bind ?_ (fun _ => ?_))
   | exact ih0 _ _ _ _ _ _ _ _
   | exact ih1 _ _ _ _ _ _
   | exact ih2 _ _ _ _ _
   | exact ih3 _ _ _ _ _ _ _ _ _
   | exact ih4 _ _ _ _ _ _ _ _ _ _
   | exact spec_TariffAt.mono _ _ _ _
   | exact LeO.none _
   | refine LeO.ite ?_ ?_
   | refine LeO.bind ?_ (fun _ => ?_)
set_option maxHeartbeats 8000000 in
set_option maxRecDepth 100000 in
theorem spec_Reserve.calls (k : Nat) (a0_0 : Int) (a0_1 : Int) (A1 : Option Addr) (c1 : Nat) (l1 : List (S60)) (a2 : Int) (a3 : Int) (a4 : Int) (r1 : Int) (r2 : Int) (r3 : Int) (r4 : Bool) (w : World) (hr1 : Kd.C k60 w A1 l1.length l1) (hc1 : l1.length ≤ c1) (h : spec_Reserve.f k a0_0 a0_1 l1 a2 a3 a4 = some (r1, r2, r3, r4)) :
  Calls Try.prog 25 #[.agg #[.int .i64 a0_0, .int .i64 a0_1], .slice A1 l1.length c1, .int .i64 a2, .int .i64 a3, .int .i64 a4] w fun e w' => e = .returned (.tuple #[.agg #[.int .i64 r1, .int .i64 r2], .int .i64 r3, .bool r4]) ∧ Below w.heap.size w w' := by
 have hu24 := Try.underlying24
 have HR1 := Aside0.mk hr1
 have HC1 := Aside0.mk hc1
 clear hr1 hc1
 have HB := Aside0.mk (Below.refl w.heap.size w)
 have H : ((spec_TariffAt.f k l1 a2 a3).bind fun bt151 => (if bt151.2 = true then ((spec_l9Purse.f a0_0 a0_1).bind fun t153 => (if t153 = true then ((spec_l1In.f a4 1 86400).bind fun t154 => (spec_Reserve.j0 k l1 a2 a3 a4 bt151.1 (!t154) a0_0 a0_1)) else (spec_Reserve.j0 k l1 a2 a3 a4 bt151.1 true a0_0 a0_1))) else (spec_Reserve.j0 k l1 a2 a3 a4 bt151.1 true a0_0 a0_1))) = some (r1, r2, r3, r4) := h
 clear h
 replace H := Option.bind_eq_some_iff.mp H
 obtain ⟨⟨t151, t152⟩, A60, H⟩ := H
 replace H : (if t152 = true then ((spec_l9Purse.f a0_0 a0_1).bind fun t153 => (if t153 = true then ((spec_l1In.f a4 1 86400).bind fun t154 => (spec_Reserve.j0 k l1 a2 a3 a4 t151 (!t154) a0_0 a0_1)) else (spec_Reserve.j0 k l1 a2 a3 a4 t151 true a0_0 a0_1))) else (spec_Reserve.j0 k l1 a2 a3 a4 t151 true a0_0 a0_1)) = some (r1, r2, r3, r4) := H
 have A6 := Aside0.mk A60
 clear A60
 have HC7 := Aside0.mk H
 clear H
 go_enter Try.func25, Try.ntmps25
 go_upto_region 2 with (first | ((with_reducible refine gate_dst (N := 5) rfl ?_); refine box_event ?hg (N := 5) ?hd (cs := #[.int .i64 a0_0, .int .i64 a0_1]) (t := 24) ?hr ?_; (case hd => rfl); (case hg => rfl); (case hr => first | (go_simp; done) | (go_simp; rfl)); intro gb149 hg w8 hbox hb; have n0_ := Aside0.mk (below_step belowNow hb); have n1_ := Aside0.mk (hbox); have n2_ := Aside0.mk ((by rw [hg]; exact (below_size belowNow) : w.heap.size ≤ gb149)); have n3_ := n2_; clear HB; have HB := n0_; have BK149 := n1_; have GW149 := n2_; have GE149 := n3_; clear n0_ n1_ n2_ n3_; clear hb hbox hg) | ((with_reducible refine gate_dst (N := 10) rfl ?_); refine box_event ?hg (N := 10) ?hd (cs := #[.int .i64 0, .int .i64 0]) (t := 24) ?hr ?_; (case hd => rfl); (case hg => rfl); (case hr => first | (go_simp; done) | (go_simp; rfl)); intro gb150 hg w9 hbox hb; have n0_ := Aside0.mk (blk_below (g := gb149) (o := .cells #[.int .i64 a0_0, .int .i64 a0_1] 24 (0, 0)) blkNow hb); have n1_ := Aside0.mk (below_step belowNow hb); have n2_ := Aside0.mk (hbox); have n3_ := Aside0.mk ((by rw [hg]; exact (below_size belowNow) : w.heap.size ≤ gb150)); have n4_ := n3_; have n5_ := Aside0.mk ((by rw [hg]; exact Nat.ne_of_lt (blk_lt (g := gb149) (o := .cells #[.int .i64 a0_0, .int .i64 a0_1] 24 (0, 0)) blkNow) : gb149 ≠ gb150)); have n6_ := Aside0.mk ((by rw [hg]; exact Nat.ne_of_gt (blk_lt (g := gb149) (o := .cells #[.int .i64 a0_0, .int .i64 a0_1] 24 (0, 0)) blkNow) : gb150 ≠ gb149)); clear BK149; clear HB; have BK149 := n0_; have HB := n1_; have BK150 := n2_; have GW150 := n3_; have GE150 := n4_; have NB149_150 := n5_; have NB150_149 := n6_; clear n0_ n1_ n2_ n3_ n4_ n5_ n6_; clear hb hbox hg) | ((with_reducible refine gate_callee (f := 20) rfl ?_); refine goesL_ (some 23) rfl rfl Try.func20 (by kernel_rfl) rfl #[.slice A1 l1.length c1, .int .i64 a2, .int .i64 a3] rfl (by (try simp only [List.map_toArray, List.map_cons, List.map_nil]); first | done | rfl | (simp only [List.length_drop, List.length_take]; rfl)) ?_; (with_reducible refine (spec_TariffAt.calls k _ _ l1 a2 a3 t151 t152 _ ?side1 ?side2 A6.out).mono ?_); (case side1 => repeat (first | exact (Kd.C_below HR1.out HB.out) | (with_reducible refine Kd.C_alloc ?_ _) | (with_reducible refine Kd.C_drewN ?_ _) | (with_reducible refine Kd.C_drew ?_))); (case side2 => exact HC1.out); rintro e w10 ⟨rfl, hb⟩; refine ⟨_, rfl, ?_⟩; have n0_ := Aside0.mk (blk_below (g := gb149) (o := .cells #[.int .i64 a0_0, .int .i64 a0_1] 24 (0, 0)) blkNow hb); have n1_ := Aside0.mk (blk_below (g := gb150) (o := .cells #[.int .i64 0, .int .i64 0] 24 (0, 0)) blkNow hb); have n2_ := Aside0.mk (below_step belowNow hb); clear BK149; clear BK150; clear HB; have BK149 := n0_; have BK150 := n1_; have HB := n2_; clear n0_ n1_ n2_; (try clear hb); (try clear hb2); (try clear hk); (try clear hi)))
 (try simp only [Act.put, List.setIfInBounds_toArray, List.set_cons_zero, List.set_cons_succ])
 go_cut [37] (fun v37 wc => ∃ (kq : Nat) (x37_6 : Bool), v37 = .bool x37_6 ∧ Aside0 (spec_Reserve.j0 kq l1 a2 a3 a4 t151 x37_6 a0_0 a0_1 = some (r1, r2, r3, r4)) ∧ Aside0 (kq ≤ k) ∧ Aside0 (wc.heap[gb149]? = some (.cells #[.int .i64 a0_0, .int .i64 a0_1] 24 (0, 0))) ∧ Aside0 (wc.heap[gb150]? = some (.cells #[.int .i64 0, .int .i64 0] 24 (0, 0))) ∧ Aside0 (Below w.heap.size w wc))
 case first =>
  have H := HC7.out
  clear HC7
  by_cases c11 : t152 = true
  ·subst c11
   have H1 : ((spec_l9Purse.f a0_0 a0_1).bind fun t153 => (if t153 = true then ((spec_l1In.f a4 1 86400).bind fun t154 => (spec_Reserve.j0 k l1 a2 a3 a4 t151 (!t154) a0_0 a0_1)) else (spec_Reserve.j0 k l1 a2 a3 a4 t151 true a0_0 a0_1))) = some (r1, r2, r3, r4) := by rw [if_pos rfl] at H; exact H
   clear H
   have H := H1
   clear H1
   replace H := Option.bind_eq_some_iff.mp H
   obtain ⟨t153, A120, H⟩ := H
   replace H : (if t153 = true then ((spec_l1In.f a4 1 86400).bind fun t154 => (spec_Reserve.j0 k l1 a2 a3 a4 t151 (!t154) a0_0 a0_1)) else (spec_Reserve.j0 k l1 a2 a3 a4 t151 true a0_0 a0_1)) = some (r1, r2, r3, r4) := H
   have A12 := Aside0.mk A120
   clear A120
   by_cases c13 : t153 = true
   ·subst c13
    have H1 : ((spec_l1In.f a4 1 86400).bind fun t154 => (spec_Reserve.j0 k l1 a2 a3 a4 t151 (!t154) a0_0 a0_1)) = some (r1, r2, r3, r4) := by rw [if_pos rfl] at H; exact H
    clear H
    have H := H1
    clear H1
    replace H := Option.bind_eq_some_iff.mp H
    obtain ⟨t154, A140, H⟩ := H
    replace H : (spec_Reserve.j0 k l1 a2 a3 a4 t151 (!t154) a0_0 a0_1) = some (r1, r2, r3, r4) := H
    have A14 := Aside0.mk A140
    clear A140
    have H' := Aside0.mk H
    clear H
    have hnb15 := NB149_150.out
    have hnc15 := NB150_149.out
    have hcz16_0 : w10.cell? ⟨gb149, 0, none⟩ = some (.int .i64 a0_0) := (blk_cell BK149.out 0).trans rfl
    have hcz16_1 : w10.cell? ⟨gb149, 1, none⟩ = some (.int .i64 a0_1) := (blk_cell BK149.out 1).trans rfl
    have hfz16_0 := blk_frozen BK149.out 0
    have hfz16_1 := blk_frozen BK149.out 1
    go_wp2_with (first | (go_at_call 35; (with_reducible refine (spec_l9Purse.calls a0_0 a0_1 true _ A12.out).mono ?_); rintro e w17 ⟨rfl, hb⟩; have n0_ := Aside0.mk (blk_below (g := gb149) (o := .cells #[.int .i64 a0_0, .int .i64 a0_1] 24 (0, 0)) blkNow hb); have n1_ := Aside0.mk (blk_below (g := gb150) (o := .cells #[.int .i64 0, .int .i64 0] 24 (0, 0)) blkNow hb); have n2_ := Aside0.mk (below_step belowNow hb); clear BK149; clear BK150; clear HB; have BK149 := n0_; have BK150 := n1_; have HB := n2_; clear n0_ n1_ n2_; (try clear hb); (try clear hb2); (try clear hk); (try clear hi)) | (go_at_call 36; (with_reducible refine (spec_l1In.calls a4 1 86400 t154 _ A14.out).mono ?_); rintro e w' ⟨rfl, ⟨nd, rfl⟩⟩))
    go_meet
    case rel => exact ⟨_, (!t154), (by first | rfl | (simp; done) | (simp [*]; done)), H', ⟨by first | omega | exact Nat.le_refl _⟩, ⟨by (with_reducible repeat (first | refine blk_drewN ?_ _ | refine blk_drew ?_ | refine blk_alloc ?_ _)); exact BK149.out⟩, ⟨by (with_reducible repeat (first | refine blk_drewN ?_ _ | refine blk_drew ?_ | refine blk_alloc ?_ _)); exact BK150.out⟩, ⟨belowNow⟩⟩
   ·replace c13 := Bool.eq_false_iff.mpr c13
    subst c13
    have H1 : (spec_Reserve.j0 k l1 a2 a3 a4 t151 true a0_0 a0_1) = some (r1, r2, r3, r4) := by rw [if_neg (show ¬ (false = true) by decide)] at H; exact H
    clear H
    have H := H1
    clear H1
    have H' := Aside0.mk H
    clear H
    have hnb18 := NB149_150.out
    have hnc18 := NB150_149.out
    have hcz19_0 : w10.cell? ⟨gb149, 0, none⟩ = some (.int .i64 a0_0) := (blk_cell BK149.out 0).trans rfl
    have hcz19_1 : w10.cell? ⟨gb149, 1, none⟩ = some (.int .i64 a0_1) := (blk_cell BK149.out 1).trans rfl
    have hfz19_0 := blk_frozen BK149.out 0
    have hfz19_1 := blk_frozen BK149.out 1
    go_wp2_with (first | (go_at_call 35; (with_reducible refine (spec_l9Purse.calls a0_0 a0_1 false _ A12.out).mono ?_); rintro e w20 ⟨rfl, hb⟩; have n0_ := Aside0.mk (blk_below (g := gb149) (o := .cells #[.int .i64 a0_0, .int .i64 a0_1] 24 (0, 0)) blkNow hb); have n1_ := Aside0.mk (blk_below (g := gb150) (o := .cells #[.int .i64 0, .int .i64 0] 24 (0, 0)) blkNow hb); have n2_ := Aside0.mk (below_step belowNow hb); clear BK149; clear BK150; clear HB; have BK149 := n0_; have BK150 := n1_; have HB := n2_; clear n0_ n1_ n2_; (try clear hb); (try clear hb2); (try clear hk); (try clear hi)))
    go_meet
    case rel => exact ⟨_, (true), (by first | rfl | (simp; done) | (simp [*]; done)), H', ⟨by first | omega | exact Nat.le_refl _⟩, ⟨by (with_reducible repeat (first | refine blk_drewN ?_ _ | refine blk_drew ?_ | refine blk_alloc ?_ _)); exact BK149.out⟩, ⟨by (with_reducible repeat (first | refine blk_drewN ?_ _ | refine blk_drew ?_ | refine blk_alloc ?_ _)); exact BK150.out⟩, ⟨belowNow⟩⟩
  ·replace c11 := Bool.eq_false_iff.mpr c11
   subst c11
   have H1 : (spec_Reserve.j0 k l1 a2 a3 a4 t151 true a0_0 a0_1) = some (r1, r2, r3, r4) := by rw [if_neg (show ¬ (false = true) by decide)] at H; exact H
   clear H
   have H := H1
   clear H1
   have H' := Aside0.mk H
   clear H
   go_wp2
   go_meet
   case rel => exact ⟨_, (true), (by first | rfl | (simp; done) | (simp [*]; done)), H', ⟨by first | omega | exact Nat.le_refl _⟩, ⟨by (with_reducible repeat (first | refine blk_drewN ?_ _ | refine blk_drew ?_ | refine blk_alloc ?_ _)); exact BK149.out⟩, ⟨by (with_reducible repeat (first | refine blk_drewN ?_ _ | refine blk_drew ?_ | refine blk_alloc ?_ _)); exact BK150.out⟩, ⟨belowNow⟩⟩
 case rest =>
  clear HC7
  try clear c1
  try clear c2
  try clear p2
  try clear c11
  try clear c13
  try clear c15
  try clear c18
  try clear c20
  try clear hcz16_0
  try clear hcz16_1
  try clear hcz19_0
  try clear hcz19_1
  try clear hfz16_0
  try clear hfz16_1
  try clear hfz19_0
  try clear hfz19_1
  obtain ⟨kq, x37_6, rfl, HA, HJ6, BK149, BK150, HB⟩ := hcut
  cases kq with
  | zero => exact absurd HA.out (by simp [spec_Reserve.j0])
  | succ kj6 =>
   have H := HA.out
   clear HA
   simp only [spec_Reserve.j0] at H
   by_cases c21 : x37_6 = true
   ·subst c21
    have H1 : (some (a0_0, a0_1, 0, false)) = some (r1, r2, r3, r4) := by rw [if_pos rfl] at H; exact H
    clear H
    have H := H1
    clear H1
    simp only [Option.some.injEq, Prod.mk.injEq] at H
    obtain ⟨rfl, rfl, rfl, rfl⟩ := H
    have hnb22 := NB149_150.out
    have hnc22 := NB150_149.out
    have hcz23_0 : wc.cell? ⟨gb149, 0, none⟩ = some (.int .i64 a0_0) := (blk_cell BK149.out 0).trans rfl
    have hcz23_1 : wc.cell? ⟨gb149, 1, none⟩ = some (.int .i64 a0_1) := (blk_cell BK149.out 1).trans rfl
    have hfz23_0 := blk_frozen BK149.out 0
    have hfz23_1 := blk_frozen BK149.out 1
    have hcz24_0 : wc.cell? ⟨gb150, 0, none⟩ = some (.int .i64 0) := (blk_cell BK150.out 0).trans rfl
    have hcz24_1 : wc.cell? ⟨gb150, 1, none⟩ = some (.int .i64 0) := (blk_cell BK150.out 1).trans rfl
    have hfz24_0 := blk_frozen BK150.out 0
    have hfz24_1 := blk_frozen BK150.out 1
    go_wp2
    refine bodyPost_ret (results_ctt rfl _ _ gb150 24 #[.int .i64 a0_0, .int .i64 a0_1] (0, 0) _ rfl (by (with_reducible repeat (first | refine blk_drewN ?_ _ | refine blk_drew ?_ | refine blk_alloc ?_ _)); refine blk_put (cs := #[.int .i64 a0_0, .int .i64 0]) ?_ 1 _ rfl; (with_reducible repeat (first | refine blk_drewN ?_ _ | refine blk_drew ?_ | refine blk_alloc ?_ _)); refine blk_put (cs := #[.int .i64 0, .int .i64 0]) ?_ 0 _ rfl; (with_reducible repeat (first | refine blk_drewN ?_ _ | refine blk_drew ?_ | refine blk_alloc ?_ _)); exact BK150.out) Try.underlying24 rfl (by kernel_rfl)) rfl ?_
    exact ⟨by first | rfl | (simp [errW_none, errW_some] <;> rfl) | (simp [*, errW_none, errW_some] <;> rfl), belowNow⟩
   ·replace c21 := Bool.eq_false_iff.mpr c21
    subst c21
    have H1 : (if 0 ≤ t151 then (if t151 < (l1.length : Int) then (spec_Reserve.l0 kj6 l1 a2 a3 a4 (wrap64 (a0_0 - a0_1)) ((rd_T60 l1 t151).f4) a3 a0_0 a0_1) else (none)) else (none)) = some (r1, r2, r3, r4) := by rw [if_neg (show ¬ (false = true) by decide)] at H; exact H
    clear H
    have H := H1
    clear H1
    by_cases c25 : 0 ≤ t151
    ·rw [if_pos c25] at H
     have c25b0 : decide (0 ≤ t151) = true := decide_eq_true c25
     clear c25
     by_cases c26 : t151 < (l1.length : Int)
     ·rw [if_pos c26] at H
      have c26b0 : decide (t151 < (l1.length : Int)) = true := decide_eq_true c26
      clear c26
      have HC27 := Aside0.mk H
      clear H
      have hnb28 := NB149_150.out
      have hnc28 := NB150_149.out
      have hcz29_0 : wc.cell? ⟨gb149, 0, none⟩ = some (.int .i64 a0_0) := (blk_cell BK149.out 0).trans rfl
      have hcz29_1 : wc.cell? ⟨gb149, 1, none⟩ = some (.int .i64 a0_1) := (blk_cell BK149.out 1).trans rfl
      have hfz29_0 := blk_frozen BK149.out 0
      have hfz29_1 := blk_frozen BK149.out 1
      have p155 : 0 ≤ (t151 : Int) := of_decide_eq_true (by first | (with_reducible assumption) | assumption)
      have q155 : t151 < (l1.length : Int) := of_decide_eq_true (by first | (with_reducible assumption) | assumption)
      obtain ⟨ad155, e155, hx155_0, hx155_1, hx155_2, hx155_3, hx155_4⟩ := at_T60 HR1.out t151 p155 q155
      cases e155
      replace hx155_0 := (HB.out.cell (World.block_lt_of_cell? w _ hx155_0)).trans hx155_0
      replace hx155_1 := (HB.out.cell (World.block_lt_of_cell? w _ hx155_1)).trans hx155_1
      replace hx155_2 := (HB.out.cell (World.block_lt_of_cell? w _ hx155_2)).trans hx155_2
      replace hx155_3 := (HB.out.cell (World.block_lt_of_cell? w _ hx155_3)).trans hx155_3
      replace hx155_4 := (HB.out.cell (World.block_lt_of_cell? w _ hx155_4)).trans hx155_4
      replace p155 := eq_true p155
      replace q155 := eq_true q155
      go_upto_block 0 with (fail)
      go_cut [16, 17] (fun v16 v17 wc => ∃ (kq : Nat) (x16_26 : Int) (x17_26 : Int), v16 = .int .i64 x16_26 ∧ v17 = .int .i64 x17_26 ∧ Aside0 (spec_Reserve.j3 kq a3 a4 x16_26 x17_26 a0_0 a0_1 = some (r1, r2, r3, r4)) ∧ Aside0 (kq ≤ kj6) ∧ Aside0 (wc.heap[gb149]? = some (.cells #[.int .i64 a0_0, .int .i64 a0_1] 24 (0, 0))) ∧ Aside0 (wc.heap[gb150]? = some (.cells #[.int .i64 0, .int .i64 0] 24 (0, 0))) ∧ Aside0 (Below w.heap.size w wc))
      case first =>
       have H := HC27.out
       clear HC27
       have H' := Aside0.mk H
       clear H
       go_wp2
       go_loopg [16, 17] kj6 (fun kq v16 v17 w' => ∃ (x16_2 : Int) (x17_2 : Int), v16 = .int .i64 x16_2 ∧ v17 = .int .i64 x17_2 ∧ Aside0 (spec_Reserve.l0 kq l1 a2 a3 a4 (wrap64 (a0_0 - a0_1)) x16_2 x17_2 a0_0 a0_1 = some (r1, r2, r3, r4)) ∧ Aside0 (kq ≤ kj6) ∧ Aside0 (w'.heap[gb149]? = some (.cells #[.int .i64 a0_0, .int .i64 a0_1] 24 (0, 0))) ∧ Aside0 (w'.heap[gb150]? = some (.cells #[.int .i64 0, .int .i64 0] 24 (0, 0))) ∧ Aside0 (Below w.heap.size w w'))
       case atStart => exact ⟨((rd_T60 l1 t151).f4), (a3), (by first | rfl | (simp; done) | (simp [*]; done)), (by first | rfl | (simp; done) | (simp [*]; done)), H', ⟨Nat.le_refl _⟩, ⟨by (with_reducible repeat (first | refine blk_drewN ?_ _ | refine blk_drew ?_ | refine blk_alloc ?_ _)); exact BK149.out⟩, ⟨by (with_reducible repeat (first | refine blk_drewN ?_ _ | refine blk_drew ?_ | refine blk_alloc ?_ _)); exact BK150.out⟩, ⟨belowNow⟩⟩
       case round =>
        clear H'
        try clear c1
        try clear p1
        try clear q1
        try clear hx1
        try clear c2
        try clear p2
        try clear p6
        try clear c11
        try clear c13
        try clear c15
        try clear p15
        try clear q15
        try clear hx15
        try clear c18
        try clear c20
        try clear c21
        try clear c22
        try clear c25
        try clear c25b0
        try clear c26
        try clear c26b0
        try clear c28
        try clear hcz16_0
        try clear hcz16_1
        try clear hcz19_0
        try clear hcz19_1
        try clear hcz23_0
        try clear hcz23_1
        try clear hcz24_0
        try clear hcz24_1
        try clear hcz29_0
        try clear hcz29_1
        try clear hfz16_0
        try clear hfz16_1
        try clear hfz19_0
        try clear hfz19_1
        try clear hfz23_0
        try clear hfz23_1
        try clear hfz24_0
        try clear hfz24_1
        try clear hfz29_0
        try clear hfz29_1
        try clear hx155_0
        try clear hx155_1
        try clear hx155_2
        try clear hx155_3
        try clear hx155_4
        try clear p155
        try clear p2
        try clear q155
        obtain ⟨x16_2, x17_2, rfl, rfl, HA, HK2, BK149, BK150, HB⟩ := hrel
        cases gk with
        | zero => exact absurd HA.out (by simp [spec_Reserve.l0])
        | succ k2 =>
         have H := HA.out
         clear HA
         simp only [spec_Reserve.l0] at H
         have HC30 := Aside0.mk H
         clear H
         go_upto_region 7 with (fail)
         go_cut [58] (fun v58 wc => ∃ (kq : Nat) (x58_29 : Bool), v58 = .bool x58_29 ∧ Aside0 (spec_Reserve.j2 kq l1 a2 a3 a4 (wrap64 (a0_0 - a0_1)) x16_2 x17_2 x58_29 a0_0 a0_1 = some (r1, r2, r3, r4)) ∧ Aside0 (kq ≤ k2) ∧ Aside0 (wc.heap[gb149]? = some (.cells #[.int .i64 a0_0, .int .i64 a0_1] 24 (0, 0))) ∧ Aside0 (wc.heap[gb150]? = some (.cells #[.int .i64 0, .int .i64 0] 24 (0, 0))) ∧ Aside0 (Below w.heap.size w wc))
         case first =>
          have H := HC30.out
          clear HC30
          by_cases c31 : x17_2 < (wrap64 (a3 + a4))
          ·rw [if_pos c31] at H
           have c31b0 : decide (x17_2 < (wrap64 (a3 + a4))) = true := decide_eq_true c31
           clear c31
           (first | rw [c31b0] | (simp only [i64_w, i32_w]; rw [c31b0]) | (rw [c31b2]; try simp only [Bool.not_false, Bool.not_true]) | skip)
           have H' := Aside0.mk H
           clear H
           go_wp2
           go_meet
           case rel => exact ⟨_, (decide (x17_2 < 1000000000)), (by first | rfl | (simp; done) | (simp [*]; done)), H', ⟨by have := HJ6.out; have := HK2.out; first | omega | exact Nat.le_refl _⟩, ⟨by (with_reducible repeat (first | refine blk_drewN ?_ _ | refine blk_drew ?_ | refine blk_alloc ?_ _)); exact BK149.out⟩, ⟨by (with_reducible repeat (first | refine blk_drewN ?_ _ | refine blk_drew ?_ | refine blk_alloc ?_ _)); exact BK150.out⟩, ⟨belowNow⟩⟩
          ·rw [if_neg c31] at H
           have c31b0 : decide (x17_2 < (wrap64 (a3 + a4))) = false := decide_eq_false c31
           clear c31
           (first | rw [c31b0] | (simp only [i64_w, i32_w]; rw [c31b0]) | (rw [c31b2]; try simp only [Bool.not_false, Bool.not_true]) | skip)
           have H' := Aside0.mk H
           clear H
           go_wp2
           go_meet
           case rel => exact ⟨_, (false), (by first | rfl | (simp; done) | (simp [*]; done)), H', ⟨by have := HJ6.out; have := HK2.out; first | omega | exact Nat.le_refl _⟩, ⟨by (with_reducible repeat (first | refine blk_drewN ?_ _ | refine blk_drew ?_ | refine blk_alloc ?_ _)); exact BK149.out⟩, ⟨by (with_reducible repeat (first | refine blk_drewN ?_ _ | refine blk_drew ?_ | refine blk_alloc ?_ _)); exact BK150.out⟩, ⟨belowNow⟩⟩
         case rest =>
          clear HC30
          try clear c1
          try clear p1
          try clear q1
          try clear hx1
          try clear c2
          try clear p2
          try clear c3
          try clear p6
          try clear c11
          try clear c13
          try clear c15
          try clear p15
          try clear q15
          try clear hx15
          try clear c18
          try clear c20
          try clear c21
          try clear c22
          try clear c25
          try clear c25b0
          try clear c26
          try clear c26b0
          try clear c28
          try clear c31
          try clear c31b0
          try clear hcz16_0
          try clear hcz16_1
          try clear hcz19_0
          try clear hcz19_1
          try clear hcz23_0
          try clear hcz23_1
          try clear hcz24_0
          try clear hcz24_1
          try clear hcz29_0
          try clear hcz29_1
          try clear hfz16_0
          try clear hfz16_1
          try clear hfz19_0
          try clear hfz19_1
          try clear hfz23_0
          try clear hfz23_1
          try clear hfz24_0
          try clear hfz24_1
          try clear hfz29_0
          try clear hfz29_1
          try clear hx155_0
          try clear hx155_1
          try clear hx155_2
          try clear hx155_3
          try clear hx155_4
          try clear p1
          try clear p15
          try clear p155
          try clear p2
          try clear p6
          try clear q1
          try clear q15
          try clear q155
          obtain ⟨kq, x58_29, rfl, HA, HJ29, BK149, BK150, HB⟩ := hcut
          cases kq with
          | zero => exact absurd HA.out (by simp [spec_Reserve.j2])
          | succ kj29 =>
           have H := HA.out
           clear HA
           simp only [spec_Reserve.j2] at H
           by_cases c32 : x58_29 = true
           ·subst c32
            have H1 : ((spec_TariffAt.f kj29 l1 a2 x17_2).bind fun bt156 => (if 0 ≤ bt156.1 then (if bt156.1 < (l1.length : Int) then (if (wrap64 (x16_2 + ((rd_T60 l1 bt156.1).f3))) > (wrap64 (a0_0 - a0_1)) then (spec_Reserve.j3 kj29 a3 a4 x16_2 x17_2 a0_0 a0_1) else (spec_Reserve.l0 kj29 l1 a2 a3 a4 (wrap64 (a0_0 - a0_1)) (wrap64 (x16_2 + ((rd_T60 l1 bt156.1).f3))) (wrap64 (x17_2 + ((rd_T60 l1 bt156.1).f2))) a0_0 a0_1)) else (none)) else (none))) = some (r1, r2, r3, r4) := by rw [if_pos rfl] at H; exact H
            clear H
            have H := H1
            clear H1
            replace H := Option.bind_eq_some_iff.mp H
            obtain ⟨⟨t156, t157⟩, A330, H⟩ := H
            replace H : (if 0 ≤ t156 then (if t156 < (l1.length : Int) then (if (wrap64 (x16_2 + ((rd_T60 l1 t156).f3))) > (wrap64 (a0_0 - a0_1)) then (spec_Reserve.j3 kj29 a3 a4 x16_2 x17_2 a0_0 a0_1) else (spec_Reserve.l0 kj29 l1 a2 a3 a4 (wrap64 (a0_0 - a0_1)) (wrap64 (x16_2 + ((rd_T60 l1 t156).f3))) (wrap64 (x17_2 + ((rd_T60 l1 t156).f2))) a0_0 a0_1)) else (none)) else (none)) = some (r1, r2, r3, r4) := H
            have A33 := Aside0.mk A330
            clear A330
            by_cases c34 : 0 ≤ t156
            ·rw [if_pos c34] at H
             have c34b0 : decide (0 ≤ t156) = true := decide_eq_true c34
             clear c34
             by_cases c35 : t156 < (l1.length : Int)
             ·rw [if_pos c35] at H
              have c35b0 : decide (t156 < (l1.length : Int)) = true := decide_eq_true c35
              clear c35
              by_cases c36 : (wrap64 (x16_2 + ((rd_T60 l1 t156).f3))) > (wrap64 (a0_0 - a0_1))
              ·rw [if_pos c36] at H
               have c36b0 : decide ((wrap64 (a0_0 - a0_1)) < (wrap64 (x16_2 + ((rd_T60 l1 t156).f3)))) = true := decide_eq_true c36
               clear c36
               have H' := Aside0.mk H
               clear H
               go_wp2_with (first | ((with_reducible refine gate_callee (f := 20) rfl ?_); refine goesL_ (some 63) rfl rfl Try.func20 (by kernel_rfl) rfl #[.slice (some ad155) l1.length c1, .int .i64 a2, .int .i64 x17_2] rfl (by (try simp only [List.map_toArray, List.map_cons, List.map_nil]); first | done | rfl | (simp only [List.length_drop, List.length_take]; rfl)) ?_; (with_reducible refine (spec_TariffAt.calls kj29 _ _ l1 a2 x17_2 t156 t157 _ ?side1 ?side2 A33.out).mono ?_); (case side1 => repeat (first | exact (Kd.C_below HR1.out HB.out) | (with_reducible refine Kd.C_alloc ?_ _) | (with_reducible refine Kd.C_drewN ?_ _) | (with_reducible refine Kd.C_drew ?_))); (case side2 => exact HC1.out); rintro e w37 ⟨rfl, hb⟩; refine ⟨_, rfl, ?_⟩; have n0_ := Aside0.mk (blk_below (g := gb149) (o := .cells #[.int .i64 a0_0, .int .i64 a0_1] 24 (0, 0)) blkNow hb); have n1_ := Aside0.mk (blk_below (g := gb150) (o := .cells #[.int .i64 0, .int .i64 0] 24 (0, 0)) blkNow hb); have n2_ := Aside0.mk (below_step belowNow hb); clear BK149; clear BK150; clear HB; have BK149 := n0_; have BK150 := n1_; have HB := n2_; clear n0_ n1_ n2_; (try clear hb); (try clear hb2); (try clear hk); (try clear hi); have p158 : 0 ≤ (t156 : Int) := of_decide_eq_true (by first | (with_reducible assumption) | assumption); have q158 : t156 < (l1.length : Int) := of_decide_eq_true (by first | (with_reducible assumption) | assumption); obtain ⟨ad158, e158, hx158_0, hx158_1, hx158_2, hx158_3, hx158_4⟩ := at_T60 HR1.out t156 p158 q158; obtain rfl : ad155 = ad158 := (by injection e158); replace hx158_0 := (HB.out.cell (World.block_lt_of_cell? w _ hx158_0)).trans hx158_0; replace hx158_1 := (HB.out.cell (World.block_lt_of_cell? w _ hx158_1)).trans hx158_1; replace hx158_2 := (HB.out.cell (World.block_lt_of_cell? w _ hx158_2)).trans hx158_2; replace hx158_3 := (HB.out.cell (World.block_lt_of_cell? w _ hx158_3)).trans hx158_3; replace hx158_4 := (HB.out.cell (World.block_lt_of_cell? w _ hx158_4)).trans hx158_4; replace p158 := eq_true p158; replace q158 := eq_true q158))
               go_meet
               case rel => exact ⟨_, (x16_2), (x17_2), (by first | rfl | (simp; done) | (simp [*]; done)), (by first | rfl | (simp; done) | (simp [*]; done)), H', ⟨by have := HJ6.out; have := HK2.out; have := HJ29.out; first | omega | exact Nat.le_refl _⟩, ⟨by (with_reducible repeat (first | refine blk_drewN ?_ _ | refine blk_drew ?_ | refine blk_alloc ?_ _)); exact BK149.out⟩, ⟨by (with_reducible repeat (first | refine blk_drewN ?_ _ | refine blk_drew ?_ | refine blk_alloc ?_ _)); exact BK150.out⟩, ⟨belowNow⟩⟩
              ·rw [if_neg c36] at H
               have c36b0 : decide ((wrap64 (a0_0 - a0_1)) < (wrap64 (x16_2 + ((rd_T60 l1 t156).f3)))) = false := decide_eq_false c36
               clear c36
               have H' := Aside0.mk H
               clear H
               go_wp2_with (first | ((with_reducible refine gate_callee (f := 20) rfl ?_); refine goesL_ (some 63) rfl rfl Try.func20 (by kernel_rfl) rfl #[.slice (some ad155) l1.length c1, .int .i64 a2, .int .i64 x17_2] rfl (by (try simp only [List.map_toArray, List.map_cons, List.map_nil]); first | done | rfl | (simp only [List.length_drop, List.length_take]; rfl)) ?_; (with_reducible refine (spec_TariffAt.calls kj29 _ _ l1 a2 x17_2 t156 t157 _ ?side1 ?side2 A33.out).mono ?_); (case side1 => repeat (first | exact (Kd.C_below HR1.out HB.out) | (with_reducible refine Kd.C_alloc ?_ _) | (with_reducible refine Kd.C_drewN ?_ _) | (with_reducible refine Kd.C_drew ?_))); (case side2 => exact HC1.out); rintro e w38 ⟨rfl, hb⟩; refine ⟨_, rfl, ?_⟩; have n0_ := Aside0.mk (blk_below (g := gb149) (o := .cells #[.int .i64 a0_0, .int .i64 a0_1] 24 (0, 0)) blkNow hb); have n1_ := Aside0.mk (blk_below (g := gb150) (o := .cells #[.int .i64 0, .int .i64 0] 24 (0, 0)) blkNow hb); have n2_ := Aside0.mk (below_step belowNow hb); clear BK149; clear BK150; clear HB; have BK149 := n0_; have BK150 := n1_; have HB := n2_; clear n0_ n1_ n2_; (try clear hb); (try clear hb2); (try clear hk); (try clear hi); have p158 : 0 ≤ (t156 : Int) := of_decide_eq_true (by first | (with_reducible assumption) | assumption); have q158 : t156 < (l1.length : Int) := of_decide_eq_true (by first | (with_reducible assumption) | assumption); obtain ⟨ad158, e158, hx158_0, hx158_1, hx158_2, hx158_3, hx158_4⟩ := at_T60 HR1.out t156 p158 q158; obtain rfl : ad155 = ad158 := (by injection e158); replace hx158_0 := (HB.out.cell (World.block_lt_of_cell? w _ hx158_0)).trans hx158_0; replace hx158_1 := (HB.out.cell (World.block_lt_of_cell? w _ hx158_1)).trans hx158_1; replace hx158_2 := (HB.out.cell (World.block_lt_of_cell? w _ hx158_2)).trans hx158_2; replace hx158_3 := (HB.out.cell (World.block_lt_of_cell? w _ hx158_3)).trans hx158_3; replace hx158_4 := (HB.out.cell (World.block_lt_of_cell? w _ hx158_4)).trans hx158_4; replace p158 := eq_true p158; replace q158 := eq_true q158; have p159 : 0 ≤ (t156 : Int) := of_decide_eq_true (by first | (with_reducible assumption) | assumption); have q159 : t156 < (l1.length : Int) := of_decide_eq_true (by first | (with_reducible assumption) | assumption); obtain ⟨ad159, e159, hx159_0, hx159_1, hx159_2, hx159_3, hx159_4⟩ := at_T60 HR1.out t156 p159 q159; obtain rfl : ad155 = ad159 := (by injection e159); replace hx159_0 := (HB.out.cell (World.block_lt_of_cell? w _ hx159_0)).trans hx159_0; replace hx159_1 := (HB.out.cell (World.block_lt_of_cell? w _ hx159_1)).trans hx159_1; replace hx159_2 := (HB.out.cell (World.block_lt_of_cell? w _ hx159_2)).trans hx159_2; replace hx159_3 := (HB.out.cell (World.block_lt_of_cell? w _ hx159_3)).trans hx159_3; replace hx159_4 := (HB.out.cell (World.block_lt_of_cell? w _ hx159_4)).trans hx159_4; replace p159 := eq_true p159; replace q159 := eq_true q159; have p160 : 0 ≤ (t156 : Int) := of_decide_eq_true (by first | (with_reducible assumption) | assumption); have q160 : t156 < (l1.length : Int) := of_decide_eq_true (by first | (with_reducible assumption) | assumption); obtain ⟨ad160, e160, hx160_0, hx160_1, hx160_2, hx160_3, hx160_4⟩ := at_T60 HR1.out t156 p160 q160; obtain rfl : ad155 = ad160 := (by injection e160); replace hx160_0 := (HB.out.cell (World.block_lt_of_cell? w _ hx160_0)).trans hx160_0; replace hx160_1 := (HB.out.cell (World.block_lt_of_cell? w _ hx160_1)).trans hx160_1; replace hx160_2 := (HB.out.cell (World.block_lt_of_cell? w _ hx160_2)).trans hx160_2; replace hx160_3 := (HB.out.cell (World.block_lt_of_cell? w _ hx160_3)).trans hx160_3; replace hx160_4 := (HB.out.cell (World.block_lt_of_cell? w _ hx160_4)).trans hx160_4; replace p160 := eq_true p160; replace q160 := eq_true q160))
               go_roundg kj29
               case measure => have := HJ6.out; have := HK2.out; have := HJ29.out; omega
               case rel => exact ⟨(wrap64 (x16_2 + ((rd_T60 l1 t156).f3))), (wrap64 (x17_2 + ((rd_T60 l1 t156).f2))), (by first | rfl | (simp; done) | (simp [*]; done)), (by first | rfl | (simp; done) | (simp [*]; done)), H', ⟨by have := HJ6.out; have := HK2.out; have := HJ29.out; omega⟩, ⟨by (with_reducible repeat (first | refine blk_drewN ?_ _ | refine blk_drew ?_ | refine blk_alloc ?_ _)); exact BK149.out⟩, ⟨by (with_reducible repeat (first | refine blk_drewN ?_ _ | refine blk_drew ?_ | refine blk_alloc ?_ _)); exact BK150.out⟩, ⟨belowNow⟩⟩
             ·rw [if_neg c35] at H
              exact absurd H (by simp)
            ·rw [if_neg c34] at H
             exact absurd H (by simp)
           ·replace c32 := Bool.eq_false_iff.mpr c32
            subst c32
            have H1 : (spec_Reserve.j3 kj29 a3 a4 x16_2 x17_2 a0_0 a0_1) = some (r1, r2, r3, r4) := by rw [if_neg (show ¬ (false = true) by decide)] at H; exact H
            clear H
            have H := H1
            clear H1
            have H' := Aside0.mk H
            clear H
            go_wp2
            go_meet
            case rel => exact ⟨_, (x16_2), (x17_2), (by first | rfl | (simp; done) | (simp [*]; done)), (by first | rfl | (simp; done) | (simp [*]; done)), H', ⟨by have := HJ6.out; have := HK2.out; have := HJ29.out; first | omega | exact Nat.le_refl _⟩, ⟨by (with_reducible repeat (first | refine blk_drewN ?_ _ | refine blk_drew ?_ | refine blk_alloc ?_ _)); exact BK149.out⟩, ⟨by (with_reducible repeat (first | refine blk_drewN ?_ _ | refine blk_drew ?_ | refine blk_alloc ?_ _)); exact BK150.out⟩, ⟨belowNow⟩⟩
      case rest =>
       clear HC27
       try clear c1
       try clear p1
       try clear q1
       try clear hx1
       try clear c2
       try clear p2
       try clear c3
       try clear p6
       try clear c11
       try clear c13
       try clear c15
       try clear p15
       try clear q15
       try clear hx15
       try clear p16
       try clear q16
       try clear hx16
       try clear c18
       try clear c20
       try clear c21
       try clear c22
       try clear c25
       try clear c25b0
       try clear c26
       try clear c26b0
       try clear c28
       try clear c31
       try clear c31b0
       try clear c32
       try clear c34
       try clear c34b0
       try clear c35
       try clear c35b0
       try clear c36
       try clear c36b0
       try clear hcz16_0
       try clear hcz16_1
       try clear hcz19_0
       try clear hcz19_1
       try clear hcz23_0
       try clear hcz23_1
       try clear hcz24_0
       try clear hcz24_1
       try clear hcz29_0
       try clear hcz29_1
       try clear hfz16_0
       try clear hfz16_1
       try clear hfz19_0
       try clear hfz19_1
       try clear hfz23_0
       try clear hfz23_1
       try clear hfz24_0
       try clear hfz24_1
       try clear hfz29_0
       try clear hfz29_1
       try clear hx155_0
       try clear hx155_1
       try clear hx155_2
       try clear hx155_3
       try clear hx155_4
       try clear hx158_0
       try clear hx158_1
       try clear hx158_2
       try clear hx158_3
       try clear hx158_4
       try clear hx159_0
       try clear hx159_1
       try clear hx159_2
       try clear hx159_3
       try clear hx159_4
       try clear hx160_0
       try clear hx160_1
       try clear hx160_2
       try clear hx160_3
       try clear hx160_4
       try clear p1
       try clear p15
       try clear p155
       try clear p158
       try clear p159
       try clear p160
       try clear p2
       try clear p6
       try clear q1
       try clear q15
       try clear q155
       try clear q158
       try clear q159
       try clear q160
       obtain ⟨kq, x16_26, x17_26, rfl, rfl, HA, HJ26, BK149, BK150, HB⟩ := hcut
       cases kq with
       | zero => exact absurd HA.out (by simp [spec_Reserve.j3])
       | succ kj26 =>
        have H := HA.out
        clear HA
        simp only [spec_Reserve.j3] at H
        have HC39 := Aside0.mk H
        clear H
        go_upto_if 94 with (fail)
        go_cut [18] (fun v18 wc => ∃ (kq : Nat) (x18_38 : Int), v18 = .int .i64 x18_38 ∧ Aside0 (spec_Reserve.j4 kq a3 x16_26 x18_38 a0_0 a0_1 = some (r1, r2, r3, r4)) ∧ Aside0 (kq ≤ kj26) ∧ Aside0 (wc.heap[gb149]? = some (.cells #[.int .i64 a0_0, .int .i64 a0_1] 24 (0, 0))) ∧ Aside0 (wc.heap[gb150]? = some (.cells #[.int .i64 0, .int .i64 0] 24 (0, 0))) ∧ Aside0 (Below w.heap.size w wc))
        case first =>
         have H := HC39.out
         clear HC39
         by_cases c40 : (wrap64 (x17_26 - a3)) > a4
         ·rw [if_pos c40] at H
          have c40b0 : decide (a4 < (wrap64 (x17_26 - a3))) = true := decide_eq_true c40
          clear c40
          (first | rw [c40b0] | (simp only [i64_w, i32_w]; rw [c40b0]) | (rw [c40b2]; try simp only [Bool.not_false, Bool.not_true]) | skip)
          have H' := Aside0.mk H
          clear H
          go_wp2
          go_meet
          case rel => exact ⟨_, (a4), (by first | rfl | (simp; done) | (simp [*]; done)), H', ⟨by have := HJ6.out; have := HJ26.out; first | omega | exact Nat.le_refl _⟩, ⟨by (with_reducible repeat (first | refine blk_drewN ?_ _ | refine blk_drew ?_ | refine blk_alloc ?_ _)); exact BK149.out⟩, ⟨by (with_reducible repeat (first | refine blk_drewN ?_ _ | refine blk_drew ?_ | refine blk_alloc ?_ _)); exact BK150.out⟩, ⟨belowNow⟩⟩
         ·rw [if_neg c40] at H
          have c40b0 : decide (a4 < (wrap64 (x17_26 - a3))) = false := decide_eq_false c40
          clear c40
          (first | rw [c40b0] | (simp only [i64_w, i32_w]; rw [c40b0]) | (rw [c40b2]; try simp only [Bool.not_false, Bool.not_true]) | skip)
          have H' := Aside0.mk H
          clear H
          go_wp2
          go_meet
          case rel => exact ⟨_, (wrap64 (x17_26 - a3)), (by first | rfl | (simp; done) | (simp [*]; done)), H', ⟨by have := HJ6.out; have := HJ26.out; first | omega | exact Nat.le_refl _⟩, ⟨by (with_reducible repeat (first | refine blk_drewN ?_ _ | refine blk_drew ?_ | refine blk_alloc ?_ _)); exact BK149.out⟩, ⟨by (with_reducible repeat (first | refine blk_drewN ?_ _ | refine blk_drew ?_ | refine blk_alloc ?_ _)); exact BK150.out⟩, ⟨belowNow⟩⟩
        case rest =>
         clear HC39
         try clear c1
         try clear p1
         try clear q1
         try clear hx1
         try clear c2
         try clear p2
         try clear c3
         try clear c4
         try clear p6
         try clear c11
         try clear c13
         try clear c15
         try clear p15
         try clear q15
         try clear hx15
         try clear p16
         try clear q16
         try clear hx16
         try clear c18
         try clear c20
         try clear c21
         try clear c22
         try clear c25
         try clear c25b0
         try clear c26
         try clear c26b0
         try clear c28
         try clear c31
         try clear c31b0
         try clear c32
         try clear c34
         try clear c34b0
         try clear c35
         try clear c35b0
         try clear c36
         try clear c36b0
         try clear c40
         try clear c40b0
         try clear hcz16_0
         try clear hcz16_1
         try clear hcz19_0
         try clear hcz19_1
         try clear hcz23_0
         try clear hcz23_1
         try clear hcz24_0
         try clear hcz24_1
         try clear hcz29_0
         try clear hcz29_1
         try clear hfz16_0
         try clear hfz16_1
         try clear hfz19_0
         try clear hfz19_1
         try clear hfz23_0
         try clear hfz23_1
         try clear hfz24_0
         try clear hfz24_1
         try clear hfz29_0
         try clear hfz29_1
         try clear hx155_0
         try clear hx155_1
         try clear hx155_2
         try clear hx155_3
         try clear hx155_4
         try clear hx158_0
         try clear hx158_1
         try clear hx158_2
         try clear hx158_3
         try clear hx158_4
         try clear hx159_0
         try clear hx159_1
         try clear hx159_2
         try clear hx159_3
         try clear hx159_4
         try clear hx160_0
         try clear hx160_1
         try clear hx160_2
         try clear hx160_3
         try clear hx160_4
         try clear p1
         try clear p15
         try clear p155
         try clear p158
         try clear p159
         try clear p16
         try clear p160
         try clear p2
         try clear p6
         try clear q1
         try clear q15
         try clear q155
         try clear q158
         try clear q159
         try clear q16
         try clear q160
         obtain ⟨kq, x18_38, rfl, HA, HJ38, BK149, BK150, HB⟩ := hcut
         cases kq with
         | zero => exact absurd HA.out (by simp [spec_Reserve.j4])
         | succ kj38 =>
          have H := HA.out
          clear HA
          simp only [spec_Reserve.j4] at H
          by_cases c41 : (wrap64 (a3 + x18_38)) > 1000000000
          ·rw [if_pos c41] at H
           have c41b0 : decide (1000000000 < (wrap64 (a3 + x18_38))) = true := decide_eq_true c41
           clear c41
           by_cases c42 : (wrap64 (1000000000 - a3)) < 1
           ·rw [if_pos c42] at H
            have c42b0 : decide ((wrap64 (1000000000 - a3)) < 1) = true := decide_eq_true c42
            clear c42
            simp only [Option.some.injEq, Prod.mk.injEq] at H
            obtain ⟨rfl, rfl, rfl, rfl⟩ := H
            have hnb43 := NB149_150.out
            have hnc43 := NB150_149.out
            have hcz44_0 : wc.cell? ⟨gb149, 0, none⟩ = some (.int .i64 a0_0) := (blk_cell BK149.out 0).trans rfl
            have hcz44_1 : wc.cell? ⟨gb149, 1, none⟩ = some (.int .i64 a0_1) := (blk_cell BK149.out 1).trans rfl
            have hfz44_0 := blk_frozen BK149.out 0
            have hfz44_1 := blk_frozen BK149.out 1
            have hcz45_0 : wc.cell? ⟨gb150, 0, none⟩ = some (.int .i64 0) := (blk_cell BK150.out 0).trans rfl
            have hcz45_1 : wc.cell? ⟨gb150, 1, none⟩ = some (.int .i64 0) := (blk_cell BK150.out 1).trans rfl
            have hfz45_0 := blk_frozen BK150.out 0
            have hfz45_1 := blk_frozen BK150.out 1
            go_wp2
            refine bodyPost_ret (results_ctt rfl _ _ gb150 24 #[.int .i64 a0_0, .int .i64 a0_1] (0, 0) _ rfl (by (with_reducible repeat (first | refine blk_drewN ?_ _ | refine blk_drew ?_ | refine blk_alloc ?_ _)); refine blk_put (cs := #[.int .i64 a0_0, .int .i64 0]) ?_ 1 _ rfl; (with_reducible repeat (first | refine blk_drewN ?_ _ | refine blk_drew ?_ | refine blk_alloc ?_ _)); refine blk_put (cs := #[.int .i64 0, .int .i64 0]) ?_ 0 _ rfl; (with_reducible repeat (first | refine blk_drewN ?_ _ | refine blk_drew ?_ | refine blk_alloc ?_ _)); exact BK150.out) Try.underlying24 rfl (by kernel_rfl)) rfl ?_
            exact ⟨by first | rfl | (simp [errW_none, errW_some] <;> rfl) | (simp [*, errW_none, errW_some] <;> rfl), belowNow⟩
           ·rw [if_neg c42] at H
            have c42b0 : decide ((wrap64 (1000000000 - a3)) < 1) = false := decide_eq_false c42
            clear c42
            simp only [Option.some.injEq, Prod.mk.injEq] at H
            obtain ⟨rfl, rfl, rfl, rfl⟩ := H
            have hnb46 := NB149_150.out
            have hnc46 := NB150_149.out
            have hcz47_0 : wc.cell? ⟨gb149, 0, none⟩ = some (.int .i64 a0_0) := (blk_cell BK149.out 0).trans rfl
            have hcz47_1 : wc.cell? ⟨gb149, 1, none⟩ = some (.int .i64 a0_1) := (blk_cell BK149.out 1).trans rfl
            have hfz47_0 := blk_frozen BK149.out 0
            have hfz47_1 := blk_frozen BK149.out 1
            have hcz48_0 : wc.cell? ⟨gb150, 0, none⟩ = some (.int .i64 0) := (blk_cell BK150.out 0).trans rfl
            have hcz48_1 : wc.cell? ⟨gb150, 1, none⟩ = some (.int .i64 0) := (blk_cell BK150.out 1).trans rfl
            have hfz48_0 := blk_frozen BK150.out 0
            have hfz48_1 := blk_frozen BK150.out 1
            go_wp2
            refine bodyPost_ret (results_ctt rfl _ _ gb150 24 #[.int .i64 a0_0, .int .i64 (wrap64 (a0_1 + x16_26))] (0, 0) _ rfl (by (with_reducible repeat (first | refine blk_drewN ?_ _ | refine blk_drew ?_ | refine blk_alloc ?_ _)); refine blk_put (cs := #[.int .i64 a0_0, .int .i64 0]) ?_ 1 _ rfl; (with_reducible repeat (first | refine blk_drewN ?_ _ | refine blk_drew ?_ | refine blk_alloc ?_ _)); refine blk_put (cs := #[.int .i64 0, .int .i64 0]) ?_ 0 _ rfl; (with_reducible repeat (first | refine blk_drewN ?_ _ | refine blk_drew ?_ | refine blk_alloc ?_ _)); refine blk_far ?_ NB150_149.out _; (with_reducible repeat (first | refine blk_drewN ?_ _ | refine blk_drew ?_ | refine blk_alloc ?_ _)); exact BK150.out) Try.underlying24 rfl (by kernel_rfl)) rfl ?_
            exact ⟨by first | rfl | (simp [errW_none, errW_some] <;> rfl) | (simp [*, errW_none, errW_some] <;> rfl), belowNow⟩
          ·rw [if_neg c41] at H
           have c41b0 : decide (1000000000 < (wrap64 (a3 + x18_38))) = false := decide_eq_false c41
           clear c41
           by_cases c49 : x18_38 < 1
           ·rw [if_pos c49] at H
            have c49b0 : decide (x18_38 < 1) = true := decide_eq_true c49
            clear c49
            simp only [Option.some.injEq, Prod.mk.injEq] at H
            obtain ⟨rfl, rfl, rfl, rfl⟩ := H
            have hnb50 := NB149_150.out
            have hnc50 := NB150_149.out
            have hcz51_0 : wc.cell? ⟨gb149, 0, none⟩ = some (.int .i64 a0_0) := (blk_cell BK149.out 0).trans rfl
            have hcz51_1 : wc.cell? ⟨gb149, 1, none⟩ = some (.int .i64 a0_1) := (blk_cell BK149.out 1).trans rfl
            have hfz51_0 := blk_frozen BK149.out 0
            have hfz51_1 := blk_frozen BK149.out 1
            have hcz52_0 : wc.cell? ⟨gb150, 0, none⟩ = some (.int .i64 0) := (blk_cell BK150.out 0).trans rfl
            have hcz52_1 : wc.cell? ⟨gb150, 1, none⟩ = some (.int .i64 0) := (blk_cell BK150.out 1).trans rfl
            have hfz52_0 := blk_frozen BK150.out 0
            have hfz52_1 := blk_frozen BK150.out 1
            go_wp2
            refine bodyPost_ret (results_ctt rfl _ _ gb150 24 #[.int .i64 a0_0, .int .i64 a0_1] (0, 0) _ rfl (by (with_reducible repeat (first | refine blk_drewN ?_ _ | refine blk_drew ?_ | refine blk_alloc ?_ _)); refine blk_put (cs := #[.int .i64 a0_0, .int .i64 0]) ?_ 1 _ rfl; (with_reducible repeat (first | refine blk_drewN ?_ _ | refine blk_drew ?_ | refine blk_alloc ?_ _)); refine blk_put (cs := #[.int .i64 0, .int .i64 0]) ?_ 0 _ rfl; (with_reducible repeat (first | refine blk_drewN ?_ _ | refine blk_drew ?_ | refine blk_alloc ?_ _)); exact BK150.out) Try.underlying24 rfl (by kernel_rfl)) rfl ?_
            exact ⟨by first | rfl | (simp [errW_none, errW_some] <;> rfl) | (simp [*, errW_none, errW_some] <;> rfl), belowNow⟩
           ·rw [if_neg c49] at H
            have c49b0 : decide (x18_38 < 1) = false := decide_eq_false c49
            clear c49
            simp only [Option.some.injEq, Prod.mk.injEq] at H
            obtain ⟨rfl, rfl, rfl, rfl⟩ := H
            have hnb53 := NB149_150.out
            have hnc53 := NB150_149.out
            have hcz54_0 : wc.cell? ⟨gb149, 0, none⟩ = some (.int .i64 a0_0) := (blk_cell BK149.out 0).trans rfl
            have hcz54_1 : wc.cell? ⟨gb149, 1, none⟩ = some (.int .i64 a0_1) := (blk_cell BK149.out 1).trans rfl
            have hfz54_0 := blk_frozen BK149.out 0
            have hfz54_1 := blk_frozen BK149.out 1
            have hcz55_0 : wc.cell? ⟨gb150, 0, none⟩ = some (.int .i64 0) := (blk_cell BK150.out 0).trans rfl
            have hcz55_1 : wc.cell? ⟨gb150, 1, none⟩ = some (.int .i64 0) := (blk_cell BK150.out 1).trans rfl
            have hfz55_0 := blk_frozen BK150.out 0
            have hfz55_1 := blk_frozen BK150.out 1
            go_wp2
            refine bodyPost_ret (results_ctt rfl _ _ gb150 24 #[.int .i64 a0_0, .int .i64 (wrap64 (a0_1 + x16_26))] (0, 0) _ rfl (by (with_reducible repeat (first | refine blk_drewN ?_ _ | refine blk_drew ?_ | refine blk_alloc ?_ _)); refine blk_put (cs := #[.int .i64 a0_0, .int .i64 0]) ?_ 1 _ rfl; (with_reducible repeat (first | refine blk_drewN ?_ _ | refine blk_drew ?_ | refine blk_alloc ?_ _)); refine blk_put (cs := #[.int .i64 0, .int .i64 0]) ?_ 0 _ rfl; (with_reducible repeat (first | refine blk_drewN ?_ _ | refine blk_drew ?_ | refine blk_alloc ?_ _)); refine blk_far ?_ NB150_149.out _; (with_reducible repeat (first | refine blk_drewN ?_ _ | refine blk_drew ?_ | refine blk_alloc ?_ _)); exact BK150.out) Try.underlying24 rfl (by kernel_rfl)) rfl ?_
            exact ⟨by first | rfl | (simp [errW_none, errW_some] <;> rfl) | (simp [*, errW_none, errW_some] <;> rfl), belowNow⟩
     ·rw [if_neg c26] at H
      exact absurd H (by simp)
    ·rw [if_neg c25] at H
     exact absurd H (by simp)

end Go.Proofs.Ytodehmbgcncnhaa.PFnReserved
