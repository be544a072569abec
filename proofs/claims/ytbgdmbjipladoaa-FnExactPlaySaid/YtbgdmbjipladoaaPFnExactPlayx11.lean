-- laid by a program of this session (wip/lay/lay.py); Lean checks it
import Derived.Test.YtbgdmbjipladoaaVFnExactPlayShort
import Derived.Test.YtbgdmbjipladoaaPFnExactPlayx0
import Derived.Test.YtbgdmbjipladoaaPFnExactPlayx8
import Derived.Test.YtbgdmbjipladoaaPFnExactPlayx9
import Derived.Test.YtbgdmbjipladoaaPFnExactPlayx10
namespace Go.Proofs.Ytbgdmbjipladoaa.PFnExactPlay
-- squashed
open Go.RowKit Go.Proofs.YtbgdmbjipladoaaW.PrintWords Go.Proofs.YtbgdmbjipladoaaW.PrintLast Go.Proofs.YtbgdmbjipladoaaW.PrintMore Go.Proofs.Ytbgdmbjipladoaa.Short
attribute [local go_sem] max2_int min2_int max_two min_two max_three min_three max_four min_four   -- for this text's walks alone
set_option linter.unusedVariables false
set_option linter.unusedSimpArgs false

theorem cz11_ {w : World} {g : Nat} {t : TypeId} {cs : Array Value} {v : Value} (h : w.heap[g]? = some (.cells cs t (0, 0))) (i : Nat) (e : cs[i]? = some v) : w.cell? ⟨g, i, none⟩ = some v := (blk_cell h i).trans e
theorem nn11_ {a b : Nat} (h : a ≠ b) : a ≠ b ∧ b ≠ a := ⟨h, h.symm⟩
/-! ### impl_Play: function 30 -/
mutual
def impl_Play.j0 : Nat → Bool → Int → Int → Int → Int → Int → List (S44) → Option (Int × Int × Int × Int × Int × (List (S44)) × List Int × Bool)
 | 0, _, _, _, _, _, _, _ => none
 | k + 1, x22, x236000, x236001, x236002, x236003, x236004, x236005 => if x22 = true then (some (x236000, x236001, x236002, x236003, x236004, x236005, ([] : List Int), false)) else (if (x236005.length : Int) > 0 then (if 0 < (x236005.length : Int) then (impl_Play.j1 k ([] : List Int) false (((rd_T44 x236005 0).f1) == x236000) x236000 x236001 x236002 x236003 x236004 x236005) else (none)) else (impl_Play.j1 k ([] : List Int) false false x236000 x236001 x236002 x236003 x236004 x236005))
def impl_Play.j1 : Nat → List Int → Bool → Bool → Int → Int → Int → Int → Int → List (S44) → Option (Int × Int × Int × Int × Int × (List (S44)) × List Int × Bool)
 | 0, _, _, _, _, _, _, _, _, _ => none
 | k + 1, x5, x6, x37, x236000, x236001, x236002, x236003, x236004, x236005 => if x37 = true then (if 0 < (x236005.length : Int) then ((impl_OfFrame.f k x236004 ((rd_T44 x236005 0).f2.f0) ((rd_T44 x236005 0).f2.f1) ((rd_T44 x236005 0).f2.f2) ((rd_T44 x236005 0).f2.f3) ((rd_T44 x236005 0).f2.f4) ((rd_T44 x236005 0).f2.f5) ((rd_T44 x236005 0).f2.f6) ((rd_T44 x236005 0).f2.f7) ((rd_T44 x236005 0).f2.f8) ((rd_T44 x236005 0).f2.f9) ((rd_T44 x236005 0).f2.f10) ((rd_T44 x236005 0).f2.f11) ((rd_T44 x236005 0).f2.f12) ((rd_T44 x236005 0).f2.f13) ((rd_T44 x236005 0).f2.f14) ((rd_T44 x236005 0).f2.f15)).bind fun bt248 => (if 1 ≤ (x236005.length : Int) then (impl_Play.j2 k bt248.1 bt248.2.2.2 x236000 x236001 x236002 x236003 x236004 (x236005.drop (1 : Int).toNat)) else (none))) else (none)) else (impl_Play.j2 k x5 x6 x236000 x236001 x236002 x236003 x236004 x236005)
def impl_Play.j2 : Nat → List Int → Bool → Int → Int → Int → Int → Int → List (S44) → Option (Int × Int × Int × Int × Int × (List (S44)) × List Int × Bool)
 | 0, _, _, _, _, _, _, _, _ => none
 | k + 1, x5, x6, x236000, x236001, x236002, x236003, x236004, x236005 => if x6 = true then (if 29 < (x5.length : Int) then (some (wrap64 (x236000 + 1), x236001, x236002, x236003, rd x5 29, x236005, x5, true)) else (none)) else (impl_Play.l0 k ([] : List Int) 1 x236000 x236001 x236002 x236003 x236004 x236005)
def impl_Play.l0 : Nat → List Int → Int → Int → Int → Int → Int → Int → List (S44) → Option (Int × Int × Int × Int × Int × (List (S44)) × List Int × Bool)
 | 0, _, _, _, _, _, _, _, _ => none
 | k + 1, x5, x7, x236000, x236001, x236002, x236003, x236004, x236005 => if x7 ≤ 30 then (if x5.length < 17592186044416 then (impl_Play.l0 k (x5 ++ [wrap64 (Int.tdiv (wrap64 (x236004 * (wrap64 (30 - x7)))) 30)]) (wrap64 (x7 + 1)) x236000 x236001 x236002 x236003 x236004 x236005) else (none)) else (if 29 < (x5.length : Int) then (some (wrap64 (x236000 + 1), x236001, x236002, wrap64 (x236003 + 1), rd x5 29, x236005, x5, true)) else (none))
end
def impl_Play.f (k : Nat) (a0_0 : Int) (a0_1 : Int) (a0_2 : Int) (a0_3 : Int) (a0_4 : Int) (l0_5 : List (S44)) : Option (Int × Int × Int × Int × Int × (List (S44)) × List Int × Bool) := (impl_ownPlayer.f a0_0 a0_1 a0_2 a0_3 a0_4 l0_5).bind fun bt237 => ((impl_PlayerOk.f k bt237.1 bt237.2.1 bt237.2.2.1 bt237.2.2.2.1 bt237.2.2.2.2.1 bt237.2.2.2.2.2).bind fun t245 => (if t245 = true then (if bt237.1 = 1000000 then (impl_Play.j0 k true bt237.1 bt237.2.1 bt237.2.2.1 bt237.2.2.2.1 bt237.2.2.2.2.1 bt237.2.2.2.2.2) else (impl_Play.j0 k (bt237.2.2.2.1 == 1000000000) bt237.1 bt237.2.1 bt237.2.2.1 bt237.2.2.2.1 bt237.2.2.2.2.1 bt237.2.2.2.2.2)) else (impl_Play.j0 k true bt237.1 bt237.2.1 bt237.2.2.1 bt237.2.2.2.1 bt237.2.2.2.2.1 bt237.2.2.2.2.2)))
theorem impl_Play.mono_l : ∀ k, (∀ y0 y1 y2 y3 y4 y5 y6, LeO (impl_Play.j0 k y0 y1 y2 y3 y4 y5 y6) (impl_Play.j0 (k + 1) y0 y1 y2 y3 y4 y5 y6)) ∧ (∀ y0 y1 y2 y3 y4 y5 y6 y7 y8, LeO (impl_Play.j1 k y0 y1 y2 y3 y4 y5 y6 y7 y8) (impl_Play.j1 (k + 1) y0 y1 y2 y3 y4 y5 y6 y7 y8)) ∧ (∀ y0 y1 y2 y3 y4 y5 y6 y7, LeO (impl_Play.j2 k y0 y1 y2 y3 y4 y5 y6 y7) (impl_Play.j2 (k + 1) y0 y1 y2 y3 y4 y5 y6 y7)) ∧ (∀ y0 y1 y2 y3 y4 y5 y6 y7, LeO (impl_Play.l0 k y0 y1 y2 y3 y4 y5 y6 y7) (impl_Play.l0 (k + 1) y0 y1 y2 y3 y4 y5 y6 y7))
 | 0 => ⟨fun _ _ _ _ _ _ _ r h => by simp [impl_Play.j0] at h, fun _ _ _ _ _ _ _ _ _ r h => by simp [impl_Play.j1] at h, fun _ _ _ _ _ _ _ _ r h => by simp [impl_Play.j2] at h, fun _ _ _ _ _ _ _ _ r h => by simp [impl_Play.l0] at h⟩
 | k + 1 => by
  obtain ⟨ih0, ih1, ih2, ih3⟩ := impl_Play.mono_l k
  refine ⟨?_, ?_, ?_, ?_⟩
  ·intro y0 y1 y2 y3 y4 y5 y6
   unfold impl_Play.j0
   repeat' first
   | (with_reducible exact ih0 _ _ _ _ _ _ _)
   | (with_reducible exact ih1 _ _ _ _ _ _ _ _ _)
   | (with_reducible exact ih2 _ _ _ _ _ _ _ _)
   | (with_reducible exact ih3 _ _ _ _ _ _ _ _)
   | (with_reducible exact impl_OfFrame.mono _ _ _ _ _ _ _ _ _ _ _ _ _ _ _ _ _ _)
   | (with_reducible exact impl_PlayerOk.mono _ _ _ _ _ _ _)
   | (with_reducible exact LeO.refl _)
   | (with_reducible exact LeO.none _)
   | (with_reducible refine LeO.ite ?_ ?_)
   | (with_reducible refine LeO.bind ?_ (fun _ => ?_))
   | exact ih0 _ _ _ _ _ _ _
   | exact ih1 _ _ _ _ _ _ _ _ _
   | exact ih2 _ _ _ _ _ _ _ _
   | exact ih3 _ _ _ _ _ _ _ _
   | exact impl_OfFrame.mono _ _ _ _ _ _ _ _ _ _ _ _ _ _ _ _ _ _
   | exact impl_PlayerOk.mono _ _ _ _ _ _ _
   | exact LeO.none _
   | refine LeO.ite ?_ ?_
   | refine LeO.bind ?_ (fun _ => ?_)
  ·intro y0 y1 y2 y3 y4 y5 y6 y7 y8
   unfold impl_Play.j1
   repeat' first
   | (with_reducible exact ih0 _ _ _ _ _ _ _)
   | (with_reducible exact ih1 _ _ _ _ _ _ _ _ _)
   | (with_reducible exact ih2 _ _ _ _ _ _ _ _)
   | (with_reducible exact ih3 _ _ _ _ _ _ _ _)
   | (with_reducible exact impl_OfFrame.mono _ _ _ _ _ _ _ _ _ _ _ _ _ _ _ _ _ _)
   | (with_reducible exact impl_PlayerOk.mono _ _ _ _ _ _ _)
   | (with_reducible exact LeO.refl _)
   | (with_reducible exact LeO.none _)
   | (with_reducible refine LeO.ite ?_ ?_)
   | (with_reducible refine LeO.bind ?_ (fun _ => ?_))
   | exact ih0 _ _ _ _ _ _ _
   | exact ih1 _ _ _ _ _ _ _ _ _
   | exact ih2 _ _ _ _ _ _ _ _
   | exact ih3 _ _ _ _ _ _ _ _
   | exact impl_OfFrame.mono _ _ _ _ _ _ _ _ _ _ _ _ _ _ _ _ _ _
   | exact impl_PlayerOk.mono _ _ _ _ _ _ _
   | exact LeO.none _
   | refine LeO.ite ?_ ?_
   | refine LeO.bind ?_ (fun _ => ?_)
  ·intro y0 y1 y2 y3 y4 y5 y6 y7
   unfold impl_Play.j2
   repeat' first
   | (with_reducible exact ih0 _ _ _ _ _ _ _)
   | (with_reducible exact ih1 _ _ _ _ _ _ _ _ _)
   | (with_reducible exact ih2 _ _ _ _ _ _ _ _)
   | (with_reducible exact ih3 _ _ _ _ _ _ _ _)
   | (with_reducible exact impl_OfFrame.mono _ _ _ _ _ _ _ _ _ _ _ _ _ _ _ _ _ _)
   | (with_reducible exact impl_PlayerOk.mono _ _ _ _ _ _ _)
   | (with_reducible exact LeO.refl _)
   | (with_reducible exact LeO.none _)
   | (with_reducible refine LeO.ite ?_ ?_)
   | (with_reducible refine LeO.bind ?_ (fun _ => ?_))
   | exact ih0 _ _ _ _ _ _ _
   | exact ih1 _ _ _ _ _ _ _ _ _
   | exact ih2 _ _ _ _ _ _ _ _
   | exact ih3 _ _ _ _ _ _ _ _
   | exact impl_OfFrame.mono _ _ _ _ _ _ _ _ _ _ _ _ _ _ _ _ _ _
   | exact impl_PlayerOk.mono _ _ _ _ _ _ _
   | exact LeO.none _
   | refine LeO.ite ?_ ?_
   | refine LeO.bind ?_ (fun _ => ?_)
  ·intro y0 y1 y2 y3 y4 y5 y6 y7
   unfold impl_Play.l0
   repeat' first
   | (with_reducible exact ih0 _ _ _ _ _ _ _)
   | (with_reducible exact ih1 _ _ _ _ _ _ _ _ _)
   | (with_reducible exact ih2 _ _ _ _ _ _ _ _)
   | (with_reducible exact ih3 _ _ _ _ _ _ _ _)
   | (with_reducible exact impl_OfFrame.mono _ _ _ _ _ _ _ _ _ _ _ _ _ _ _ _ _ _)
   | (with_reducible exact impl_PlayerOk.mono _ _ _ _ _ _ _)
   | (with_reducible exact LeO.refl _)
   | (with_reducible exact LeO.none _)
   | (with_reducible refine LeO.ite ?_ ?_)
   | (with_reducible refine LeO.bind ?_ (fun _ => ?_))
   | exact ih0 _ _ _ _ _ _ _
   | exact ih1 _ _ _ _ _ _ _ _ _
   | exact ih2 _ _ _ _ _ _ _ _
   | exact ih3 _ _ _ _ _ _ _ _
   | exact impl_OfFrame.mono _ _ _ _ _ _ _ _ _ _ _ _ _ _ _ _ _ _
   | exact impl_PlayerOk.mono _ _ _ _ _ _ _
   | exact LeO.none _
   | refine LeO.ite ?_ ?_
   | refine LeO.bind ?_ (fun _ => ?_)
theorem impl_Play.mono : ∀ a0 a1 a2 a3 a4 a5 k, LeO (impl_Play.f k a0 a1 a2 a3 a4 a5) (impl_Play.f (k + 1) a0 a1 a2 a3 a4 a5) := by
 intro a0 a1 a2 a3 a4 a5 k
 obtain ⟨ih0, ih1, ih2, ih3⟩ := impl_Play.mono_l k
 unfold impl_Play.f
 repeat' first
   | (with_reducible exact ih0 _ _ _ _ _ _ _)
   | (with_reducible exact ih1 _ _ _ _ _ _ _ _ _)
   | (with_reducible exact ih2 _ _ _ _ _ _ _ _)
   | (with_reducible exact ih3 _ _ _ _ _ _ _ _)
   | (with_reducible exact impl_OfFrame.mono _ _ _ _ _ _ _ _ _ _ _ _ _ _ _ _ _ _)
   | (with_reducible exact impl_PlayerOk.mono _ _ _ _ _ _ _)
   | (with_reducible exact LeO.refl _)
   | (with_reducible exact LeO.none _)
   | (with_reducible refine LeO.ite ?_ ?_)
   | (with_reducible refine LeO.bind ?_ (fun _ => ?_))
   | exact ih0 _ _ _ _ _ _ _
   | exact ih1 _ _ _ _ _ _ _ _ _
   | exact ih2 _ _ _ _ _ _ _ _
   | exact ih3 _ _ _ _ _ _ _ _
   | exact impl_OfFrame.mono _ _ _ _ _ _ _ _ _ _ _ _ _ _ _ _ _ _
   | exact impl_PlayerOk.mono _ _ _ _ _ _ _
   | exact LeO.none _
   | refine LeO.ite ?_ ?_
   | refine LeO.bind ?_ (fun _ => ?_)
def impl_Play.T6 : Bool × List (List Nat × List Nat) := (true, [([], []), ([0], [0]), ([1], [1]), ([2], [2]), ([3], [3]), ([4], [4]), ([5, 4], [4, 5]), ([6, 4], [4, 6]), ([7, 4], [4, 7]), ([8, 4], [4, 8]), ([4], [4]), ([10, 4], [4, 10]), ([9, 11, 4], [4, 9, 11]), ([4, 12], [4, 12])])
def impl_Play.B6 : List Nat := [0, 1, 3, 7, 15, 31, 63, 127, 255, 511, 31, 1055, 4095, 8191]
theorem impl_Play.tab6 : rtab .any (opsOf Try.f30 6) = impl_Play.T6 := by kernel_rfl
theorem impl_Play.bits6 : waitsOk impl_Play.T6.2 impl_Play.B6 = true := by kernel_rfl
def impl_Play.T7 : Bool × List (List Nat × List Nat) := (true, [([], []), ([0], [0]), ([], []), ([2], [2]), ([3], [3]), ([4], [4]), ([5], [5]), ([1, 6], [1, 6]), ([7], [7]), ([8], [8]), ([8], [8]), ([8], [8]), ([9, 7, 0, 1, 2, 3, 4, 5, 6, 7, 8, 9], [9]), ([11, 12, 0, 1, 2, 3, 4, 5, 6, 7, 8, 9, 10, 11, 12], [11])])
def impl_Play.B7 : List Nat := [0, 1, 0, 4, 12, 28, 60, 127, 255, 511, 511, 511, 1023, 8191]
theorem impl_Play.tab7 : rtab .any (opsOf Try.f30 7) = impl_Play.T7 := by kernel_rfl
theorem impl_Play.bits7 : waitsOk impl_Play.T7.2 impl_Play.B7 = true := by kernel_rfl
set_option maxHeartbeats 8000000 in
set_option maxRecDepth 100000 in
theorem impl_Play.calls (k : Nat) (a0_0 : Int) (a0_1 : Int) (a0_2 : Int) (a0_3 : Int) (a0_4 : Int) (A0_5 : Option Addr) (c0_5 : Nat) (l0_5 : List (S44)) (r1 : Int) (r2 : Int) (r3 : Int) (r4 : Int) (r5 : Int) (r6 : List (S44)) (r7 : List Int) (r8 : Bool) (w : World) (hr0_5 : Kd.C k44 w A0_5 l0_5.length l0_5) (hc0_5 : l0_5.length ≤ c0_5) (h : impl_Play.f k a0_0 a0_1 a0_2 a0_3 a0_4 l0_5 = some (r1, r2, r3, r4, r5, r6, r7, r8)) :
  Calls Try.prog 30 #[.agg #[.int .i64 a0_0, .int .i64 a0_1, .int .i64 a0_2, .int .i64 a0_3, .int .i64 a0_4, .slice A0_5 l0_5.length c0_5]] w fun e w' => ∃ v5_ v6_ : Value, e = .returned (.tuple #[.agg #[.int .i64 r1, .int .i64 r2, .int .i64 r3, .int .i64 r4, .int .i64 r5, v5_], v6_, .bool r8]) ∧ Kd.Q k44 44 w' w.heap.size (fun _ => True) v5_ r6 ∧ Kd.R (Kd.int .i64) 3 w' w.heap.size (fun _ => True) v6_ r7 ∧ Below w.heap.size w w' := by
 have hu35 := Try.underlying35; have hu39 := Try.underlying39; have HR0_5 := am_ hr0_5; have HC0_5 := am_ hc0_5; clear hr0_5 hc0_5; have HB := am_ (Below.refl w.heap.size w)
 have H : ((impl_ownPlayer.f a0_0 a0_1 a0_2 a0_3 a0_4 l0_5).bind fun bt237 => ((impl_PlayerOk.f k bt237.1 bt237.2.1 bt237.2.2.1 bt237.2.2.2.1 bt237.2.2.2.2.1 bt237.2.2.2.2.2).bind fun t245 => (if t245 = true then (if bt237.1 = 1000000 then (impl_Play.j0 k true bt237.1 bt237.2.1 bt237.2.2.1 bt237.2.2.2.1 bt237.2.2.2.2.1 bt237.2.2.2.2.2) else (impl_Play.j0 k (bt237.2.2.2.1 == 1000000000) bt237.1 bt237.2.1 bt237.2.2.1 bt237.2.2.2.1 bt237.2.2.2.2.1 bt237.2.2.2.2.2)) else (impl_Play.j0 k true bt237.1 bt237.2.1 bt237.2.2.1 bt237.2.2.2.1 bt237.2.2.2.2.1 bt237.2.2.2.2.2)))) = some (r1, r2, r3, r4, r5, r6, r7, r8) := h
 clear h; replace H := Option.bind_eq_some_iff.mp H; obtain ⟨⟨t237, t238, t239, t240, t241, t242⟩, A20, H⟩ := H
 replace H : ((impl_PlayerOk.f k t237 t238 t239 t240 t241 t242).bind fun t245 => (if t245 = true then (if t237 = 1000000 then (impl_Play.j0 k true t237 t238 t239 t240 t241 t242) else (impl_Play.j0 k (t240 == 1000000000) t237 t238 t239 t240 t241 t242)) else (impl_Play.j0 k true t237 t238 t239 t240 t241 t242))) = some (r1, r2, r3, r4, r5, r6, r7, r8) := H
 have A2 := am_ A20; clear A20; have HC3 := am_ H; clear H
 go_enter Try.func30, Try.ntmps30
 go_upto_region 2 with (first | ((with_reducible refine gate_dst (N := 1) rfl ?_); refine box_event ?hg (N := 1) ?hd (cs := #[.int .i64 a0_0, .int .i64 a0_1, .int .i64 a0_2, .int .i64 a0_3, .int .i64 a0_4, .slice A0_5 l0_5.length c0_5]) (t := 35) ?hr ?_; (case hd => rfl); (case hg => rfl); (case hr => first | (go_simp; done) | (go_simp; rfl)); intro gb235 hg w4 hbox hb; have n0_ := am_ (below_step belowNow hb); have n1_ := am_ (hbox); have n2_ := am_ ((by rw [hg]; exact (below_size belowNow) : w.heap.size ≤ gb235)); have n3_ := n2_; clear HB; have HB := n0_; have BK235 := n1_; have GW235 := n2_; have GE235 := n3_; clear n0_ n1_ n2_ n3_; clear hb hbox hg) | ((with_reducible refine gate_dst (N := 2) rfl ?_); refine box_event ?hg (N := 2) ?hd (cs := #[.int .i64 0, .int .i64 0, .int .i64 0, .int .i64 0, .int .i64 0, .slice none 0 0]) (t := 35) ?hr ?_; (case hd => rfl); (case hg => rfl); (case hr => first | (go_simp; done) | (go_simp; rfl)); intro gb236 hg w5 hbox hb; have n0_ := am_ (blkStep (g := gb235) hb); have n1_ := am_ (below_step belowNow hb); have n2_ := am_ (hbox); have n3_ := am_ ((by rw [hg]; exact (below_size belowNow) : w.heap.size ≤ gb236)); have n4_ := n3_; have n5_ := am_ ((by rw [hg]; exact Nat.ne_of_lt (blkLt (g := gb235)) : gb235 ≠ gb236)); have n6_ := am_ ((by rw [hg]; exact Nat.ne_of_gt (blkLt (g := gb235)) : gb236 ≠ gb235)); clear BK235; clear HB; have BK235 := n0_; have HB := n1_; have BK236 := n2_; have GW236 := n3_; have GE236 := n4_; have NB235_236 := n5_; have NB236_235 := n6_; clear n0_ n1_ n2_ n3_ n4_ n5_ n6_; clear hb hbox hg; have ⟨hnb6, hnc6⟩ := nn11_ NB235_236.out; have hcz7_0 := cz11_ BK235.out 0 rfl; have hcz7_1 := cz11_ BK235.out 1 rfl; have hcz7_2 := cz11_ BK235.out 2 rfl; have hcz7_3 := cz11_ BK235.out 3 rfl; have hcz7_4 := cz11_ BK235.out 4 rfl; have hcz7_5 := cz11_ BK235.out 5 rfl; have hfz7_0 := blk_frozen BK235.out 0; have hfz7_1 := blk_frozen BK235.out 1; have hfz7_2 := blk_frozen BK235.out 2; have hfz7_3 := blk_frozen BK235.out 3; have hfz7_4 := blk_frozen BK235.out 4; have hfz7_5 := blk_frozen BK235.out 5) | ((with_reducible refine gate_callee (f := 54) rfl ?_); refine goesL_ (some 9) rfl rfl Try.func54 (by kernel_rfl) rfl #[.agg #[.int .i64 a0_0, .int .i64 a0_1, .int .i64 a0_2, .int .i64 a0_3, .int .i64 a0_4, .slice A0_5 l0_5.length c0_5]] rfl (by (try simp only [List.map_toArray, List.map_cons, List.map_nil]); first | done | rfl | (simp only [List.length_drop, List.length_take]; rfl)) ?_; (with_reducible refine (impl_ownPlayer.calls a0_0 a0_1 a0_2 a0_3 a0_4 _ _ l0_5 t237 t238 t239 t240 t241 t242 _ ?side1 ?side2 A2.out).mono ?_); (case side1 => repeat (first | exact (Kd.C_below HR0_5.out HB.out) | (with_reducible refine Kd.C_alloc ?_ _) | (with_reducible refine Kd.C_drewN ?_ _) | (with_reducible refine Kd.C_drew ?_))); (case side2 => exact HC0_5.out); rintro e w8 ⟨v243, rfl, ho0, hb⟩; refine ⟨_, rfl, ?_⟩; have HO244 := am_ (Kd.R_lower ho0 (below_size belowNow)); replace BK235 := am_ (blkStep (g := gb235) hb); replace BK236 := am_ (blkStep (g := gb236) hb); replace HB := am_ (below_step belowNow hb); (try clear hb); (try clear hb2); (try clear hk); (try clear hi); (try clear ho0); have hcz9_0 := cz11_ BK235.out 0 rfl; have hcz9_1 := cz11_ BK235.out 1 rfl; have hcz9_2 := cz11_ BK235.out 2 rfl; have hcz9_3 := cz11_ BK235.out 3 rfl; have hcz9_4 := cz11_ BK235.out 4 rfl; have hcz9_5 := cz11_ BK235.out 5 rfl; have hfz9_0 := blk_frozen BK235.out 0; have hfz9_1 := blk_frozen BK235.out 1; have hfz9_2 := blk_frozen BK235.out 2; have hfz9_3 := blk_frozen BK235.out 3; have hfz9_4 := blk_frozen BK235.out 4; have hfz9_5 := blk_frozen BK235.out 5; obtain ⟨Ao10, co10, eo10⟩ := Kd.R_slice HO244.out; subst eo10))
 (try simp only [Act.put, List.setIfInBounds_toArray, List.set_cons_zero, List.set_cons_succ])
 go_cut [22] (fun v22 wc => ∃ (kq : Nat) (x22_2 : Bool), v22 = .bool x22_2 ∧ Aside0 (impl_Play.j0 kq x22_2 t237 t238 t239 t240 t241 t242 = some (r1, r2, r3, r4, r5, r6, r7, r8)) ∧ Aside0 (kq ≤ k) ∧ Aside0 (Kd.Q k44 44 wc w.heap.size (fun _ => True) (.slice Ao10 t242.length co10) t242) ∧ Aside0 (wc.heap[gb235]? = some (.cells #[.int .i64 t237, .int .i64 t238, .int .i64 t239, .int .i64 t240, .int .i64 t241, (.slice Ao10 t242.length co10)] 35 (0, 0))) ∧ Aside0 (wc.heap[gb236]? = some (.cells #[.int .i64 0, .int .i64 0, .int .i64 0, .int .i64 0, .int .i64 0, (.slice none 0 0)] 35 (0, 0))) ∧ Aside0 (Below w.heap.size w wc))
 case first =>
  have H := HC3.out; clear HC3; replace H := Option.bind_eq_some_iff.mp H; obtain ⟨t245, A110, H⟩ := H
  replace H : (if t245 = true then (if t237 = 1000000 then (impl_Play.j0 k true t237 t238 t239 t240 t241 t242) else (impl_Play.j0 k (t240 == 1000000000) t237 t238 t239 t240 t241 t242)) else (impl_Play.j0 k true t237 t238 t239 t240 t241 t242)) = some (r1, r2, r3, r4, r5, r6, r7, r8) := H
  have A11 := am_ A110; clear A110
  by_cases c12 : t245 = true
  case neg =>
   replace c12 := Bool.eq_false_iff.mpr c12; subst c12
   have H1 : (impl_Play.j0 k true t237 t238 t239 t240 t241 t242) = some (r1, r2, r3, r4, r5, r6, r7, r8) := by rw [if_neg (show ¬ (false = true) by decide)] at H; exact H
   clear H; have H := H1; clear H1
   have H' := am_ H
   clear H; have ⟨hnb22, hnc22⟩ := nn11_ NB235_236.out; have hcz23_0 := cz11_ BK235.out 0 rfl; have hcz23_1 := cz11_ BK235.out 1 rfl; have hcz23_2 := cz11_ BK235.out 2 rfl; have hcz23_3 := cz11_ BK235.out 3 rfl; have hcz23_4 := cz11_ BK235.out 4 rfl; have hcz23_5 := cz11_ BK235.out 5 rfl; have hfz23_0 := blk_frozen BK235.out 0; have hfz23_1 := blk_frozen BK235.out 1; have hfz23_2 := blk_frozen BK235.out 2; have hfz23_3 := blk_frozen BK235.out 3; have hfz23_4 := blk_frozen BK235.out 4; have hfz23_5 := blk_frozen BK235.out 5
   go_wp2_with (first | ((with_reducible refine gate_callee (f := 20) rfl ?_); refine goesL_ (some 11) rfl rfl Try.func20 (by kernel_rfl) rfl #[.agg #[.int .i64 t237, .int .i64 t238, .int .i64 t239, .int .i64 t240, .int .i64 t241, .slice Ao10 t242.length co10]] rfl (by (try simp only [List.map_toArray, List.map_cons, List.map_nil]); first | done | rfl | (simp only [List.length_drop, List.length_take]; rfl)) ?_; (with_reducible refine (impl_PlayerOk.calls k t237 t238 t239 t240 t241 _ _ t242 false _ ?side1 ?side2 A11.out).mono ?_); (case side1 => refine (Kd.R_reads' (e := 44) (base := w.heap.size) (ok := fun k_ => True) (n := t242.length) (c := co10) ?_).2.2; exact (by (with_reducible repeat (first | apply Kd.R_alloc | apply Kd.R_drewN | apply Kd.R_drew)); exact (Kd.R_mono (Far.rfar6_ (fun _ hk => hk.2) (Kd.R_types HO244.out BK235.out (by decide))) (fun _ h_ => h_.1)))); (case side2 => exact (Kd.R_reads' HO244.out).2.1); rintro e w24 ⟨rfl, hb⟩; refine ⟨_, rfl, ?_⟩; replace HO244 := am_ (Kd.R_below (by (with_reducible repeat (first | apply Kd.R_alloc | apply Kd.R_drewN | apply Kd.R_drew)); exact (Kd.R_mono (Far.rfar6_ (fun _ hk => hk.2) (Kd.R_types HO244.out BK235.out (by decide))) (fun _ h_ => h_.1))) hb); replace BK235 := am_ (blk_below (g := gb235) (o := .cells #[.int .i64 t237, .int .i64 t238, .int .i64 t239, .int .i64 t240, .int .i64 t241, .slice Ao10 t242.length co10] 35 (0, 0)) (by (with_reducible repeat (first | refine blk_drewN ?_ _ | refine blk_drew ?_ | refine blk_alloc ?_ _)); refine Far.put6_ #[.int .i64 a0_0, .int .i64 a0_1, .int .i64 a0_2, .int .i64 a0_3, .int .i64 a0_4, .slice A0_5 l0_5.length c0_5] rfl ?_; (with_reducible repeat (first | refine blk_drewN ?_ _ | refine blk_drew ?_ | refine blk_alloc ?_ _)); exact BK235.out) hb); replace BK236 := am_ (blk_below (g := gb236) (o := .cells #[.int .i64 0, .int .i64 0, .int .i64 0, .int .i64 0, .int .i64 0, .slice none 0 0] 35 (0, 0)) (blkFars) hb); replace HB := am_ (below_step belowNow hb); (try clear hb); (try clear hb2); (try clear hk); (try clear hi)))
   go_meet
   case rel => exact ⟨_, (true), (by first | rfl | (simp; done) | (simp [*]; done)), H', ⟨by first | omega | exact Nat.le_refl _⟩, ⟨Kd.Q_of_R (pR_ HO244.out)⟩, ⟨pB_ BK235.out⟩, ⟨pB_ BK236.out⟩, ⟨belowNow⟩⟩
  subst c12
  have H1 : (if t237 = 1000000 then (impl_Play.j0 k true t237 t238 t239 t240 t241 t242) else (impl_Play.j0 k (t240 == 1000000000) t237 t238 t239 t240 t241 t242)) = some (r1, r2, r3, r4, r5, r6, r7, r8) := by rw [if_pos rfl] at H; exact H
  clear H; have H := H1; clear H1
  by_cases c13 : t237 = 1000000
  case pos =>
   rw [if_pos c13] at H; have c13b0 : (t237 == 1000000) = true := beq_iff_eq.mpr c13; have c13b1 : (t237 != 1000000) = false := bne_eq_false_iff_eq.mpr c13; clear c13
   (first | rw [c13b0] | (simp only [i64_w, i32_w]; rw [c13b0]) | (rw [c13b2]; try simp only [Bool.not_false, Bool.not_true]) | skip)
   have H' := am_ H
   clear H; have ⟨hnb14, hnc14⟩ := nn11_ NB235_236.out; have hcz15_0 := cz11_ BK235.out 0 rfl; have hcz15_1 := cz11_ BK235.out 1 rfl; have hcz15_2 := cz11_ BK235.out 2 rfl; have hcz15_3 := cz11_ BK235.out 3 rfl; have hcz15_4 := cz11_ BK235.out 4 rfl; have hcz15_5 := cz11_ BK235.out 5 rfl; have hfz15_0 := blk_frozen BK235.out 0; have hfz15_1 := blk_frozen BK235.out 1; have hfz15_2 := blk_frozen BK235.out 2; have hfz15_3 := blk_frozen BK235.out 3; have hfz15_4 := blk_frozen BK235.out 4; have hfz15_5 := blk_frozen BK235.out 5
   go_wp2_with (first | ((with_reducible refine gate_callee (f := 20) rfl ?_); refine goesL_ (some 11) rfl rfl Try.func20 (by kernel_rfl) rfl #[.agg #[.int .i64 t237, .int .i64 t238, .int .i64 t239, .int .i64 t240, .int .i64 t241, .slice Ao10 t242.length co10]] rfl (by (try simp only [List.map_toArray, List.map_cons, List.map_nil]); first | done | rfl | (simp only [List.length_drop, List.length_take]; rfl)) ?_; (with_reducible refine (impl_PlayerOk.calls k t237 t238 t239 t240 t241 _ _ t242 true _ ?side1 ?side2 A11.out).mono ?_); (case side1 => refine (Kd.R_reads' (e := 44) (base := w.heap.size) (ok := fun k_ => True) (n := t242.length) (c := co10) ?_).2.2; exact (by (with_reducible repeat (first | apply Kd.R_alloc | apply Kd.R_drewN | apply Kd.R_drew)); exact (Kd.R_mono (Far.rfar6_ (fun _ hk => hk.2) (Kd.R_types HO244.out BK235.out (by decide))) (fun _ h_ => h_.1)))); (case side2 => exact (Kd.R_reads' HO244.out).2.1); rintro e w16 ⟨rfl, hb⟩; refine ⟨_, rfl, ?_⟩; replace HO244 := am_ (Kd.R_below (by (with_reducible repeat (first | apply Kd.R_alloc | apply Kd.R_drewN | apply Kd.R_drew)); exact (Kd.R_mono (Far.rfar6_ (fun _ hk => hk.2) (Kd.R_types HO244.out BK235.out (by decide))) (fun _ h_ => h_.1))) hb); replace BK235 := am_ (blk_below (g := gb235) (o := .cells #[.int .i64 t237, .int .i64 t238, .int .i64 t239, .int .i64 t240, .int .i64 t241, .slice Ao10 t242.length co10] 35 (0, 0)) (by (with_reducible repeat (first | refine blk_drewN ?_ _ | refine blk_drew ?_ | refine blk_alloc ?_ _)); refine Far.put6_ #[.int .i64 a0_0, .int .i64 a0_1, .int .i64 a0_2, .int .i64 a0_3, .int .i64 a0_4, .slice A0_5 l0_5.length c0_5] rfl ?_; (with_reducible repeat (first | refine blk_drewN ?_ _ | refine blk_drew ?_ | refine blk_alloc ?_ _)); exact BK235.out) hb); replace BK236 := am_ (blk_below (g := gb236) (o := .cells #[.int .i64 0, .int .i64 0, .int .i64 0, .int .i64 0, .int .i64 0, .slice none 0 0] 35 (0, 0)) (blkFars) hb); replace HB := am_ (below_step belowNow hb); (try clear hb); (try clear hb2); (try clear hk); (try clear hi); have hcz17_0 := cz11_ BK235.out 0 rfl; have hcz17_1 := cz11_ BK235.out 1 rfl; have hcz17_2 := cz11_ BK235.out 2 rfl; have hcz17_3 := cz11_ BK235.out 3 rfl; have hcz17_4 := cz11_ BK235.out 4 rfl; have hcz17_5 := cz11_ BK235.out 5 rfl; have hfz17_0 := blk_frozen BK235.out 0; have hfz17_1 := blk_frozen BK235.out 1; have hfz17_2 := blk_frozen BK235.out 2; have hfz17_3 := blk_frozen BK235.out 3; have hfz17_4 := blk_frozen BK235.out 4; have hfz17_5 := blk_frozen BK235.out 5))
   go_meet
   case rel => exact ⟨_, (true), (by first | rfl | (simp; done) | (simp [*]; done)), H', ⟨by first | omega | exact Nat.le_refl _⟩, ⟨Kd.Q_of_R (pR_ HO244.out)⟩, ⟨pB_ BK235.out⟩, ⟨pB_ BK236.out⟩, ⟨belowNow⟩⟩
  rw [if_neg c13] at H; have c13b0 : (t237 == 1000000) = false := beq_eq_false_iff_ne.mpr c13; have c13b1 : (t237 != 1000000) = true := bne_iff_ne.mpr c13
  (first | rw [c13b0] | (simp only [i64_w, i32_w]; rw [c13b0]) | (rw [c13b2]; try simp only [Bool.not_false, Bool.not_true]) | skip)
  have H' := am_ H
  clear H; have ⟨hnb18, hnc18⟩ := nn11_ NB235_236.out; have hcz19_0 := cz11_ BK235.out 0 rfl; have hcz19_1 := cz11_ BK235.out 1 rfl; have hcz19_2 := cz11_ BK235.out 2 rfl; have hcz19_3 := cz11_ BK235.out 3 rfl; have hcz19_4 := cz11_ BK235.out 4 rfl; have hcz19_5 := cz11_ BK235.out 5 rfl; have hfz19_0 := blk_frozen BK235.out 0; have hfz19_1 := blk_frozen BK235.out 1; have hfz19_2 := blk_frozen BK235.out 2; have hfz19_3 := blk_frozen BK235.out 3; have hfz19_4 := blk_frozen BK235.out 4; have hfz19_5 := blk_frozen BK235.out 5
  go_wp2_with (first | ((with_reducible refine gate_callee (f := 20) rfl ?_); refine goesL_ (some 11) rfl rfl Try.func20 (by kernel_rfl) rfl #[.agg #[.int .i64 t237, .int .i64 t238, .int .i64 t239, .int .i64 t240, .int .i64 t241, .slice Ao10 t242.length co10]] rfl (by (try simp only [List.map_toArray, List.map_cons, List.map_nil]); first | done | rfl | (simp only [List.length_drop, List.length_take]; rfl)) ?_; (with_reducible refine (impl_PlayerOk.calls k t237 t238 t239 t240 t241 _ _ t242 true _ ?side1 ?side2 A11.out).mono ?_); (case side1 => refine (Kd.R_reads' (e := 44) (base := w.heap.size) (ok := fun k_ => True) (n := t242.length) (c := co10) ?_).2.2; exact (by (with_reducible repeat (first | apply Kd.R_alloc | apply Kd.R_drewN | apply Kd.R_drew)); exact (Kd.R_mono (Far.rfar6_ (fun _ hk => hk.2) (Kd.R_types HO244.out BK235.out (by decide))) (fun _ h_ => h_.1)))); (case side2 => exact (Kd.R_reads' HO244.out).2.1); rintro e w20 ⟨rfl, hb⟩; refine ⟨_, rfl, ?_⟩; replace HO244 := am_ (Kd.R_below (by (with_reducible repeat (first | apply Kd.R_alloc | apply Kd.R_drewN | apply Kd.R_drew)); exact (Kd.R_mono (Far.rfar6_ (fun _ hk => hk.2) (Kd.R_types HO244.out BK235.out (by decide))) (fun _ h_ => h_.1))) hb); replace BK235 := am_ (blk_below (g := gb235) (o := .cells #[.int .i64 t237, .int .i64 t238, .int .i64 t239, .int .i64 t240, .int .i64 t241, .slice Ao10 t242.length co10] 35 (0, 0)) (by (with_reducible repeat (first | refine blk_drewN ?_ _ | refine blk_drew ?_ | refine blk_alloc ?_ _)); refine Far.put6_ #[.int .i64 a0_0, .int .i64 a0_1, .int .i64 a0_2, .int .i64 a0_3, .int .i64 a0_4, .slice A0_5 l0_5.length c0_5] rfl ?_; (with_reducible repeat (first | refine blk_drewN ?_ _ | refine blk_drew ?_ | refine blk_alloc ?_ _)); exact BK235.out) hb); replace BK236 := am_ (blk_below (g := gb236) (o := .cells #[.int .i64 0, .int .i64 0, .int .i64 0, .int .i64 0, .int .i64 0, .slice none 0 0] 35 (0, 0)) (blkFars) hb); replace HB := am_ (below_step belowNow hb); (try clear hb); (try clear hb2); (try clear hk); (try clear hi); have hcz21_0 := cz11_ BK235.out 0 rfl; have hcz21_1 := cz11_ BK235.out 1 rfl; have hcz21_2 := cz11_ BK235.out 2 rfl; have hcz21_3 := cz11_ BK235.out 3 rfl; have hcz21_4 := cz11_ BK235.out 4 rfl; have hcz21_5 := cz11_ BK235.out 5 rfl; have hfz21_0 := blk_frozen BK235.out 0; have hfz21_1 := blk_frozen BK235.out 1; have hfz21_2 := blk_frozen BK235.out 2; have hfz21_3 := blk_frozen BK235.out 3; have hfz21_4 := blk_frozen BK235.out 4; have hfz21_5 := blk_frozen BK235.out 5))
  go_meet
  case rel => exact ⟨_, ((t240 == 1000000000)), (by first | rfl | (simp; done) | (simp [*]; done)), H', ⟨by first | omega | exact Nat.le_refl _⟩, ⟨Kd.Q_of_R (pR_ HO244.out)⟩, ⟨pB_ BK235.out⟩, ⟨pB_ BK236.out⟩, ⟨belowNow⟩⟩
 case rest =>
  clear HC3; (try clear c1); (try clear c2); (try clear p2); (try clear c3); (try clear c5); (try clear c6); (try clear c12); (try clear c13); (try clear c13b0); (try clear c13b1); (try clear c14); (try clear c18); (try clear c20); (try clear c22); (try clear hcz15_0 hcz15_1 hcz15_2 hcz15_3 hcz15_4 hcz15_5); (try clear hcz17_0 hcz17_1 hcz17_2 hcz17_3 hcz17_4 hcz17_5); (try clear hcz19_0 hcz19_1 hcz19_2 hcz19_3 hcz19_4 hcz19_5); (try clear hcz21_0 hcz21_1 hcz21_2 hcz21_3 hcz21_4 hcz21_5); (try clear hcz23_0 hcz23_1 hcz23_2 hcz23_3 hcz23_4 hcz23_5); (try clear hcz7_0 hcz7_1 hcz7_2 hcz7_3 hcz7_4 hcz7_5); (try clear hcz9_0 hcz9_1 hcz9_2 hcz9_3 hcz9_4 hcz9_5); (try clear hfz15_0 hfz15_1 hfz15_2 hfz15_3 hfz15_4 hfz15_5); (try clear hfz17_0 hfz17_1 hfz17_2 hfz17_3 hfz17_4 hfz17_5); (try clear hfz19_0 hfz19_1 hfz19_2 hfz19_3 hfz19_4 hfz19_5); (try clear hfz21_0 hfz21_1 hfz21_2 hfz21_3 hfz21_4 hfz21_5); (try clear hfz23_0 hfz23_1 hfz23_2 hfz23_3 hfz23_4 hfz23_5); (try clear hfz7_0 hfz7_1 hfz7_2 hfz7_3 hfz7_4 hfz7_5); (try clear hfz9_0 hfz9_1 hfz9_2 hfz9_3 hfz9_4 hfz9_5); obtain ⟨kq, x22_2, rfl, HA, HJ2, HO_236005, BK235, BK236, HB⟩ := hcut
  cases kq with
  | zero => exact absurd HA.out (by simp [impl_Play.j0])
  | succ kj2 =>
   have H := HA.out; clear HA; simp only [impl_Play.j0] at H
   by_cases c25 : x22_2 = true
   case pos =>
    subst c25
    have H1 : (some (t237, t238, t239, t240, t241, t242, ([] : List Int), false)) = some (r1, r2, r3, r4, r5, r6, r7, r8) := by rw [if_pos rfl] at H; exact H
    clear H; have H := H1; clear H1; simp only [Option.some.injEq, Prod.mk.injEq] at H; obtain ⟨rfl, rfl, rfl, rfl, rfl, rfl, rfl, rfl⟩ := H; have ⟨hnb26, hnc26⟩ := nn11_ NB235_236.out; have hcz27_0 := cz11_ BK235.out 0 rfl; have hcz27_1 := cz11_ BK235.out 1 rfl; have hcz27_2 := cz11_ BK235.out 2 rfl; have hcz27_3 := cz11_ BK235.out 3 rfl; have hcz27_4 := cz11_ BK235.out 4 rfl; have hcz27_5 := cz11_ BK235.out 5 rfl; have hfz27_0 := blk_frozen BK235.out 0; have hfz27_1 := blk_frozen BK235.out 1; have hfz27_2 := blk_frozen BK235.out 2; have hfz27_3 := blk_frozen BK235.out 3; have hfz27_4 := blk_frozen BK235.out 4; have hfz27_5 := blk_frozen BK235.out 5; have hcz28_0 := cz11_ BK236.out 0 rfl; have hcz28_1 := cz11_ BK236.out 1 rfl; have hcz28_2 := cz11_ BK236.out 2 rfl; have hcz28_3 := cz11_ BK236.out 3 rfl; have hcz28_4 := cz11_ BK236.out 4 rfl; have hcz28_5 := cz11_ BK236.out 5 rfl; have hfz28_0 := blk_frozen BK236.out 0; have hfz28_1 := blk_frozen BK236.out 1; have hfz28_2 := blk_frozen BK236.out 2; have hfz28_3 := blk_frozen BK236.out 3; have hfz28_4 := blk_frozen BK236.out 4; have hfz28_5 := blk_frozen BK236.out 5
    go_wp2
    refine bodyPost_ret (results_ctt rfl _ _ gb236 35 #[.int .i64 t237, .int .i64 t238, .int .i64 t239, .int .i64 t240, .int .i64 t241, .slice Ao10 t242.length co10] (0, 0) _ rfl (by (with_reducible repeat (first | refine blk_drewN ?_ _ | refine blk_drew ?_ | refine blk_alloc ?_ _)); refine Far.put6_ #[.int .i64 0, .int .i64 0, .int .i64 0, .int .i64 0, .int .i64 0, .slice none 0 0] rfl ?_; (with_reducible repeat (first | refine blk_drewN ?_ _ | refine blk_drew ?_ | refine blk_alloc ?_ _)); exact BK236.out) Try.underlying35 rfl (by kernel_rfl)) rfl ?_
    exact ⟨_, _, by first | rfl | (simp [errW_none, errW_some] <;> rfl) | (simp [*, errW_none, errW_some] <;> rfl), by (with_reducible repeat (first | apply Kd.Q_alloc | apply Kd.Q_drewN | apply Kd.Q_drew)); exact Kd.Q_mono (Far.qfar6_ (fun _ hk => hk.2) (Kd.Q_types HO_236005.out BK236.out (by decide))) (fun _ hk => trivial), by first | exact Kd.R_nil _ _ _ _ _ | exact Kd.N_nil _ _ _ _ _ | exact Kd.V_nil _ _ _ _ _ | exact Kd.Q_nil _ _ _ _ _ | exact Kd.S_nil _ _ _ _ _, belowNow⟩
   replace c25 := Bool.eq_false_iff.mpr c25; subst c25
   have H1 : (if (t242.length : Int) > 0 then (if 0 < (t242.length : Int) then (impl_Play.j1 kj2 ([] : List Int) false (((rd_T44 t242 0).f1) == t237) t237 t238 t239 t240 t241 t242) else (none)) else (impl_Play.j1 kj2 ([] : List Int) false false t237 t238 t239 t240 t241 t242)) = some (r1, r2, r3, r4, r5, r6, r7, r8) := by rw [if_neg (show ¬ (false = true) by decide)] at H; exact H
   clear H; have H := H1; clear H1; have HC29 := am_ H; clear H
   go_upto_region 6 with (fail)
   go_cut [37] (fun v37 wc => ∃ (kq : Nat) (x37_28 : Bool), v37 = .bool x37_28 ∧ Aside0 (impl_Play.j1 kq ([] : List Int) false x37_28 t237 t238 t239 t240 t241 t242 = some (r1, r2, r3, r4, r5, r6, r7, r8)) ∧ Aside0 (kq ≤ kj2) ∧ Aside0 (Kd.R (Kd.int .i64) 3 wc w.heap.size (fun _ => True) (.slice none 0 0) ([] : List Int)) ∧ Aside0 (Kd.Q k44 44 wc w.heap.size (fun _ => True) (.slice Ao10 t242.length co10) t242) ∧ Aside0 (wc.heap[gb235]? = some (.cells #[.int .i64 t237, .int .i64 t238, .int .i64 t239, .int .i64 t240, .int .i64 t241, (.slice Ao10 t242.length co10)] 35 (0, 0))) ∧ Aside0 (wc.heap[gb236]? = some (.cells #[.int .i64 0, .int .i64 0, .int .i64 0, .int .i64 0, .int .i64 0, (.slice none 0 0)] 35 (0, 0))) ∧ Aside0 (Below w.heap.size w wc))
   case first =>
    have H := HC29.out; clear HC29
    by_cases c30 : (t242.length : Int) > 0
    case neg =>
     rw [if_neg c30] at H; have c30b0 : decide (0 < (t242.length : Int)) = false := decide_eq_false c30
     have c30b1 : decide (0 < t242.length) = false := decide_eq_false (by omega)
     clear c30
     (first | rw [c30b0] | (simp only [i64_w, i32_w]; rw [c30b0]) | (rw [c30b2]; try simp only [Bool.not_false, Bool.not_true]) | skip)
     have H' := am_ H
     clear H
     try go_wp2
     have n0_ := am_ (Kd.Q_drew HO_236005.out); have n1_ := am_ (blk_drew BK235.out); have n2_ := am_ (blk_drew BK236.out); have n3_ := am_ (below_drew1 HB.out); clear HO_236005 BK235 BK236 HB; have HO_236005 := n0_; have BK235 := n1_; have BK236 := n2_; have HB := n3_; clear n0_ n1_ n2_ n3_
     refine start_ (n := 14) (S := fun w' => w'.cell? ⟨gb235, 0, none⟩ = some (.int .i64 t237) ∧ w'.cell? ⟨gb235, 1, none⟩ = some (.int .i64 t238) ∧ w'.cell? ⟨gb235, 2, none⟩ = some (.int .i64 t239) ∧ w'.cell? ⟨gb235, 3, none⟩ = some (.int .i64 t240) ∧ w'.cell? ⟨gb235, 4, none⟩ = some (.int .i64 t241) ∧ w'.cell? ⟨gb235, 5, none⟩ = some (.slice Ao10 t242.length co10)) (ds := []) #[false, false, false, false, false, false, false, false, false, false, false, false, false, false] (by kernel_rfl) rfl rfl ⟨(blk_cell BK235.out 0).trans rfl, (blk_cell BK235.out 1).trans rfl, (blk_cell BK235.out 2).trans rfl, (blk_cell BK235.out 3).trans rfl, (blk_cell BK235.out 4).trans rfl, (blk_cell BK235.out 5).trans rfl⟩ (fun hHeld => ?_); refine with_tabW impl_Play.tab6 impl_Play.bits6 (fun HT_ HW_ => ?_)
     generalize wc.drew = w33 at HO_236005 BK235 BK236 HB hHeld ⊢
     refine pure_ (i := 0) (N := some 24) (v := ?_) (a' := ?_) #[true, false, false, false, false, false, false, false, false, false, false, false, false, false] rfl rfl (any_of HT_.out (by kernel_rfl)) (fun _ _ _ h => h) (Or.inl ⟨by rfl, ?_⟩) ?_ ?_
     rotate_left
     ·intro w'
      go_simp
      with_reducible rfl
     rotate_left
     ·simp only [Act.put, List.setIfInBounds_toArray, List.set_cons_zero, List.set_cons_succ, i64_w, i32_w]
      rfl
     refine take_ (i := 1) (N := some 25) (v := ?_) (a' := ?_) #[true, true, false, false, false, false, false, false, false, false, false, false, false, false] rfl rfl (take_ofW HT_.out HW_.out (by kernel_rfl)) (fun _ _ _ h => h) (Or.inl ⟨by rfl, ?_⟩) hHeld ?_ ?_
     rotate_left
     ·rintro w' ⟨s0, s1, s2, s3, s4, s5⟩
      go_simp
      with_reducible rfl
     rotate_left
     ·simp only [Act.put, List.setIfInBounds_toArray, List.set_cons_zero, List.set_cons_succ, i64_w, i32_w]
      rfl
     refine pure_ (i := 2) (N := some 26) (v := ?_) (a' := ?_) #[true, true, true, false, false, false, false, false, false, false, false, false, false, false] rfl rfl (any_of HT_.out (by kernel_rfl)) (fun _ _ _ h => h) (Or.inl ⟨by rfl, ?_⟩) ?_ ?_
     rotate_left
     ·intro w'
      go_simp
      with_reducible rfl
     rotate_left
     ·simp only [Act.put, List.setIfInBounds_toArray, List.set_cons_zero, List.set_cons_succ, i64_w, i32_w]
      rfl
     refine pure_ (i := 3) (N := some 27) (v := ?_) (a' := ?_) #[true, true, true, true, false, false, false, false, false, false, false, false, false, false] rfl rfl (any_of HT_.out (by kernel_rfl)) (fun _ _ _ h => h) (Or.inl ⟨by rfl, ?_⟩) ?_ ?_
     rotate_left
     ·intro w'
      go_simp
      with_reducible rfl
     rotate_left
     ·simp only [Act.put, List.setIfInBounds_toArray, List.set_cons_zero, List.set_cons_succ, i64_w, i32_w]
      rfl
     refine pure_ (i := 4) (N := some 28) (v := ?_) (a' := ?_) #[true, true, true, true, true, false, false, false, false, false, false, false, false, false] rfl rfl (any_of HT_.out (by kernel_rfl)) (fun _ _ _ h => h) (Or.inl ⟨by rfl, ?_⟩) ?_ ?_
     rotate_left
     ·intro w'
      go_simp
      with_reducible rfl
     rotate_left
     ·simp only [Act.put, List.setIfInBounds_toArray, List.set_cons_zero, List.set_cons_succ, i64_w, i32_w]
      rfl
     refine pure_ (i := 5) (N := some 29) (v := undef) (a' := ?_) #[true, true, true, true, true, true, false, false, false, false, false, false, false, false] rfl rfl (any_of HT_.out (by kernel_rfl)) (fun _ _ _ h => h) (Or.inr ⟨by rfl, rfl⟩) ?_ ?_
     rotate_left
     ·simp only [Act.put, List.setIfInBounds_toArray, List.set_cons_zero, List.set_cons_succ, i64_w, i32_w]
      rfl
     refine pure_ (i := 6) (N := some 30) (v := undef) (a' := ?_) #[true, true, true, true, true, true, true, false, false, false, false, false, false, false] rfl rfl (any_of HT_.out (by kernel_rfl)) (fun _ _ _ h => h) (Or.inr ⟨by rfl, rfl⟩) ?_ ?_
     rotate_left
     ·simp only [Act.put, List.setIfInBounds_toArray, List.set_cons_zero, List.set_cons_succ, i64_w, i32_w]
      rfl
     refine pure_ (i := 7) (N := some 31) (v := undef) (a' := ?_) #[true, true, true, true, true, true, true, true, false, false, false, false, false, false] rfl rfl (any_of HT_.out (by kernel_rfl)) (fun _ _ _ h => h) (Or.inr ⟨by rfl, rfl⟩) ?_ ?_
     rotate_left
     ·simp only [Act.put, List.setIfInBounds_toArray, List.set_cons_zero, List.set_cons_succ, i64_w, i32_w]
      rfl
     refine pure_ (i := 8) (N := some 32) (v := undef) (a' := ?_) #[true, true, true, true, true, true, true, true, true, false, false, false, false, false] rfl rfl (any_of HT_.out (by kernel_rfl)) (fun _ _ _ h => h) (Or.inr ⟨by rfl, rfl⟩) ?_ ?_
     rotate_left
     ·simp only [Act.put, List.setIfInBounds_toArray, List.set_cons_zero, List.set_cons_succ, i64_w, i32_w]
      rfl
     refine pure_ (i := 9) (N := some 33) (v := undef) (a' := ?_) #[true, true, true, true, true, true, true, true, true, true, false, false, false, false] rfl rfl (any_of HT_.out (by kernel_rfl)) (fun _ _ _ h => h) (Or.inr ⟨by rfl, rfl⟩) ?_ ?_
     rotate_left
     ·simp only [Act.put, List.setIfInBounds_toArray, List.set_cons_zero, List.set_cons_succ, i64_w, i32_w]
      rfl
     refine pure_ (i := 10) (N := some 34) (v := undef) (a' := ?_) #[true, true, true, true, true, true, true, true, true, true, true, false, false, false] rfl rfl (any_of HT_.out (by kernel_rfl)) (fun _ _ _ h => h) (Or.inr ⟨by rfl, rfl⟩) ?_ ?_
     rotate_left
     ·simp only [Act.put, List.setIfInBounds_toArray, List.set_cons_zero, List.set_cons_succ, i64_w, i32_w]
      rfl
     refine pure_ (i := 11) (N := some 35) (v := undef) (a' := ?_) #[true, true, true, true, true, true, true, true, true, true, true, true, false, false] rfl rfl (any_of HT_.out (by kernel_rfl)) (fun _ _ _ h => h) (Or.inr ⟨by rfl, rfl⟩) ?_ ?_
     rotate_left
     ·simp only [Act.put, List.setIfInBounds_toArray, List.set_cons_zero, List.set_cons_succ, i64_w, i32_w]
      rfl
     refine pure_ (i := 12) (N := some 36) (v := undef) (a' := ?_) #[true, true, true, true, true, true, true, true, true, true, true, true, true, false] rfl rfl (any_of HT_.out (by kernel_rfl)) (fun _ _ _ h => h) (Or.inr ⟨by rfl, rfl⟩) ?_ ?_
     rotate_left
     ·simp only [Act.put, List.setIfInBounds_toArray, List.set_cons_zero, List.set_cons_succ, i64_w, i32_w]
      rfl
     refine pure_ (i := 13) (N := some 37) (v := ?_) (a' := ?_) #[true, true, true, true, true, true, true, true, true, true, true, true, true, true] rfl rfl (any_of HT_.out (by kernel_rfl)) (fun _ _ _ h => h) (Or.inl ⟨by rfl, ?_⟩) ?_ ?_
     rotate_left
     ·intro w'
      go_simp
      with_reducible rfl
     rotate_left
     ·simp only [Act.put, List.setIfInBounds_toArray, List.set_cons_zero, List.set_cons_succ, i64_w, i32_w]
      rfl
     refine done_ (done_of HT_.out (by kernel_rfl)) ?_
     try go_wp2
     go_meet
     case rel => exact ⟨_, (false), (by first | rfl | (simp; done) | (simp [*]; done)), H', ⟨by have := HJ2.out; first | omega | exact Nat.le_refl _⟩, ⟨by first | exact Kd.R_nil _ _ _ _ _ | exact Kd.N_nil _ _ _ _ _ | exact Kd.V_nil _ _ _ _ _ | exact Kd.Q_nil _ _ _ _ _ | exact Kd.S_nil _ _ _ _ _⟩, ⟨by (with_reducible repeat (first | apply Kd.Q_alloc | apply Kd.Q_drewN | apply Kd.Q_drew)); exact HO_236005.out⟩, ⟨pB_ BK235.out⟩, ⟨pB_ BK236.out⟩, ⟨belowNow⟩⟩
    rw [if_pos c30] at H; have c30b0 : decide (0 < (t242.length : Int)) = true := decide_eq_true c30
    have c30b1 : decide (0 < t242.length) = true := decide_eq_true (by omega)
    clear c30
    (first | rw [c30b0] | (simp only [i64_w, i32_w]; rw [c30b0]) | (rw [c30b2]; try simp only [Bool.not_false, Bool.not_true]) | skip)
    by_cases c31 : 0 < (t242.length : Int)
    case neg =>
     rw [if_neg c31] at H
     exact absurd H (by simp)
    rw [if_pos c31] at H; have c31b0 : decide (0 < (t242.length : Int)) = true := decide_eq_true c31
    have c31b1 : decide (0 < t242.length) = true := decide_eq_true (by omega)
    clear c31
    have H' := am_ H
    clear H
    try go_wp2
    have n0_ := am_ (Kd.Q_drew HO_236005.out); have n1_ := am_ (blk_drew BK235.out); have n2_ := am_ (blk_drew BK236.out); have n3_ := am_ (below_drew1 HB.out); clear HO_236005 BK235 BK236 HB; have HO_236005 := n0_; have BK235 := n1_; have BK236 := n2_; have HB := n3_; clear n0_ n1_ n2_ n3_
    have p246 : 0 ≤ (0 : Int) := (by omega)
    have q246 : 0 < (t242.length : Int) := of_decide_eq_true (by first | (with_reducible assumption) | assumption)
    obtain ⟨ad246, e246, hx246_0, hx246_1, hx246_2, hx246_3, hx246_4, hx246_5, hx246_6, hx246_7, hx246_8, hx246_9, hx246_10, hx246_11, hx246_12, hx246_13, hx246_14, hx246_15, hx246_16, hx246_17⟩ := at_T44 (Kd.Q_reads' HO_236005.out).2.2 0 p246 q246
    cases e246
    have qi246 : (0 < t242.length) = True := eq_true (by omega)
    (try rw [show ((0 : Int)).toNat = 0 from rfl] at hx246_0)
    (try rw [show 0 * 18 = 0 from rfl] at hx246_0)
    (try rw [Addr.add_zero'] at hx246_0)
    (try rw [show ((0 : Int)).toNat = 0 from rfl] at hx246_1)
    (try rw [show 0 * 18 = 0 from rfl] at hx246_1)
    (try rw [Addr.add_zero'] at hx246_1)
    (try rw [show ((0 : Int)).toNat = 0 from rfl] at hx246_2)
    (try rw [show 0 * 18 = 0 from rfl] at hx246_2)
    (try rw [Addr.add_zero'] at hx246_2)
    (try rw [show ((0 : Int)).toNat = 0 from rfl] at hx246_3)
    (try rw [show 0 * 18 = 0 from rfl] at hx246_3)
    (try rw [Addr.add_zero'] at hx246_3)
    (try rw [show ((0 : Int)).toNat = 0 from rfl] at hx246_4)
    (try rw [show 0 * 18 = 0 from rfl] at hx246_4)
    (try rw [Addr.add_zero'] at hx246_4)
    (try rw [show ((0 : Int)).toNat = 0 from rfl] at hx246_5)
    (try rw [show 0 * 18 = 0 from rfl] at hx246_5)
    (try rw [Addr.add_zero'] at hx246_5)
    (try rw [show ((0 : Int)).toNat = 0 from rfl] at hx246_6)
    (try rw [show 0 * 18 = 0 from rfl] at hx246_6)
    (try rw [Addr.add_zero'] at hx246_6)
    (try rw [show ((0 : Int)).toNat = 0 from rfl] at hx246_7)
    (try rw [show 0 * 18 = 0 from rfl] at hx246_7)
    (try rw [Addr.add_zero'] at hx246_7)
    (try rw [show ((0 : Int)).toNat = 0 from rfl] at hx246_8)
    (try rw [show 0 * 18 = 0 from rfl] at hx246_8)
    (try rw [Addr.add_zero'] at hx246_8)
    (try rw [show ((0 : Int)).toNat = 0 from rfl] at hx246_9)
    (try rw [show 0 * 18 = 0 from rfl] at hx246_9)
    (try rw [Addr.add_zero'] at hx246_9)
    (try rw [show ((0 : Int)).toNat = 0 from rfl] at hx246_10)
    (try rw [show 0 * 18 = 0 from rfl] at hx246_10)
    (try rw [Addr.add_zero'] at hx246_10)
    (try rw [show ((0 : Int)).toNat = 0 from rfl] at hx246_11)
    (try rw [show 0 * 18 = 0 from rfl] at hx246_11)
    (try rw [Addr.add_zero'] at hx246_11)
    (try rw [show ((0 : Int)).toNat = 0 from rfl] at hx246_12)
    (try rw [show 0 * 18 = 0 from rfl] at hx246_12)
    (try rw [Addr.add_zero'] at hx246_12)
    (try rw [show ((0 : Int)).toNat = 0 from rfl] at hx246_13)
    (try rw [show 0 * 18 = 0 from rfl] at hx246_13)
    (try rw [Addr.add_zero'] at hx246_13)
    (try rw [show ((0 : Int)).toNat = 0 from rfl] at hx246_14)
    (try rw [show 0 * 18 = 0 from rfl] at hx246_14)
    (try rw [Addr.add_zero'] at hx246_14)
    (try rw [show ((0 : Int)).toNat = 0 from rfl] at hx246_15)
    (try rw [show 0 * 18 = 0 from rfl] at hx246_15)
    (try rw [Addr.add_zero'] at hx246_15)
    (try rw [show ((0 : Int)).toNat = 0 from rfl] at hx246_16)
    (try rw [show 0 * 18 = 0 from rfl] at hx246_16)
    (try rw [Addr.add_zero'] at hx246_16)
    (try rw [show ((0 : Int)).toNat = 0 from rfl] at hx246_17)
    (try rw [show 0 * 18 = 0 from rfl] at hx246_17)
    (try rw [Addr.add_zero'] at hx246_17)
    replace p246 := eq_true p246; replace q246 := eq_true q246
    refine start_ (n := 14) (S := fun w' => w'.cell? ⟨gb235, 0, none⟩ = some (.int .i64 t237) ∧ w'.cell? ⟨gb235, 1, none⟩ = some (.int .i64 t238) ∧ w'.cell? ⟨gb235, 2, none⟩ = some (.int .i64 t239) ∧ w'.cell? ⟨gb235, 3, none⟩ = some (.int .i64 t240) ∧ w'.cell? ⟨gb235, 4, none⟩ = some (.int .i64 t241) ∧ w'.cell? ⟨gb235, 5, none⟩ = some (.slice (some ad246) t242.length co10) ∧ w'.cell? ad246 = some (.int .i64 ((rd_T44 t242 0).f0)) ∧ w'.cell? ⟨ad246.block, ad246.off + 1, none⟩ = some (.int .i64 ((rd_T44 t242 0).f1)) ∧ w'.cell? ⟨ad246.block, ad246.off + 2, none⟩ = some (.int .u8 ((rd_T44 t242 0).f2.f0)) ∧ w'.cell? ⟨ad246.block, ad246.off + 3, none⟩ = some (.int .u8 ((rd_T44 t242 0).f2.f1)) ∧ w'.cell? ⟨ad246.block, ad246.off + 4, none⟩ = some (.int .u8 ((rd_T44 t242 0).f2.f2)) ∧ w'.cell? ⟨ad246.block, ad246.off + 5, none⟩ = some (.int .u8 ((rd_T44 t242 0).f2.f3)) ∧ w'.cell? ⟨ad246.block, ad246.off + 6, none⟩ = some (.int .u8 ((rd_T44 t242 0).f2.f4)) ∧ w'.cell? ⟨ad246.block, ad246.off + 7, none⟩ = some (.int .u8 ((rd_T44 t242 0).f2.f5)) ∧ w'.cell? ⟨ad246.block, ad246.off + 8, none⟩ = some (.int .u8 ((rd_T44 t242 0).f2.f6)) ∧ w'.cell? ⟨ad246.block, ad246.off + 9, none⟩ = some (.int .u8 ((rd_T44 t242 0).f2.f7)) ∧ w'.cell? ⟨ad246.block, ad246.off + 10, none⟩ = some (.int .u8 ((rd_T44 t242 0).f2.f8)) ∧ w'.cell? ⟨ad246.block, ad246.off + 11, none⟩ = some (.int .u8 ((rd_T44 t242 0).f2.f9)) ∧ w'.cell? ⟨ad246.block, ad246.off + 12, none⟩ = some (.int .u8 ((rd_T44 t242 0).f2.f10)) ∧ w'.cell? ⟨ad246.block, ad246.off + 13, none⟩ = some (.int .u8 ((rd_T44 t242 0).f2.f11)) ∧ w'.cell? ⟨ad246.block, ad246.off + 14, none⟩ = some (.int .u8 ((rd_T44 t242 0).f2.f12)) ∧ w'.cell? ⟨ad246.block, ad246.off + 15, none⟩ = some (.int .u8 ((rd_T44 t242 0).f2.f13)) ∧ w'.cell? ⟨ad246.block, ad246.off + 16, none⟩ = some (.int .u8 ((rd_T44 t242 0).f2.f14)) ∧ w'.cell? ⟨ad246.block, ad246.off + 17, none⟩ = some (.int .u8 ((rd_T44 t242 0).f2.f15))) (ds := []) #[false, false, false, false, false, false, false, false, false, false, false, false, false, false] (by kernel_rfl) rfl rfl ⟨(blk_cell BK235.out 0).trans rfl, (blk_cell BK235.out 1).trans rfl, (blk_cell BK235.out 2).trans rfl, (blk_cell BK235.out 3).trans rfl, (blk_cell BK235.out 4).trans rfl, (blk_cell BK235.out 5).trans rfl, hx246_0, hx246_1, hx246_2, hx246_3, hx246_4, hx246_5, hx246_6, hx246_7, hx246_8, hx246_9, hx246_10, hx246_11, hx246_12, hx246_13, hx246_14, hx246_15, hx246_16, hx246_17⟩ (fun hHeld => ?_); refine with_tabW impl_Play.tab6 impl_Play.bits6 (fun HT_ HW_ => ?_)
    generalize wc.drew = w32 at HO_236005 BK235 BK236 HB hx246_0 hx246_1 hx246_10 hx246_11 hx246_12 hx246_13 hx246_14 hx246_15 hx246_16 hx246_17 hx246_2 hx246_3 hx246_4 hx246_5 hx246_6 hx246_7 hx246_8 hx246_9 hHeld ⊢
    refine pure_ (i := 0) (N := some 24) (v := ?_) (a' := ?_) #[true, false, false, false, false, false, false, false, false, false, false, false, false, false] rfl rfl (any_of HT_.out (by kernel_rfl)) (fun _ _ _ h => h) (Or.inl ⟨by rfl, ?_⟩) ?_ ?_
    rotate_left
    ·intro w'
     go_simp
     with_reducible rfl
    rotate_left
    ·simp only [Act.put, List.setIfInBounds_toArray, List.set_cons_zero, List.set_cons_succ, i64_w, i32_w]
     rfl
    refine take_ (i := 1) (N := some 25) (v := ?_) (a' := ?_) #[true, true, false, false, false, false, false, false, false, false, false, false, false, false] rfl rfl (take_ofW HT_.out HW_.out (by kernel_rfl)) (fun _ _ _ h => h) (Or.inl ⟨by rfl, ?_⟩) hHeld ?_ ?_
    rotate_left
    ·rintro w' ⟨s0, s1, s2, s3, s4, s5, s6, s7, s8, s9, s10, s11, s12, s13, s14, s15, s16, s17, s18, s19, s20, s21, s22, s23⟩
     go_simp
     with_reducible rfl
    rotate_left
    ·simp only [Act.put, List.setIfInBounds_toArray, List.set_cons_zero, List.set_cons_succ, i64_w, i32_w]
     rfl
    refine pure_ (i := 2) (N := some 26) (v := ?_) (a' := ?_) #[true, true, true, false, false, false, false, false, false, false, false, false, false, false] rfl rfl (any_of HT_.out (by kernel_rfl)) (fun _ _ _ h => h) (Or.inl ⟨by rfl, ?_⟩) ?_ ?_
    rotate_left
    ·intro w'
     go_simp
     with_reducible rfl
    rotate_left
    ·simp only [Act.put, List.setIfInBounds_toArray, List.set_cons_zero, List.set_cons_succ, i64_w, i32_w]
     rfl
    refine pure_ (i := 3) (N := some 27) (v := ?_) (a' := ?_) #[true, true, true, true, false, false, false, false, false, false, false, false, false, false] rfl rfl (any_of HT_.out (by kernel_rfl)) (fun _ _ _ h => h) (Or.inl ⟨by rfl, ?_⟩) ?_ ?_
    rotate_left
    ·intro w'
     go_simp
     with_reducible rfl
    rotate_left
    ·simp only [Act.put, List.setIfInBounds_toArray, List.set_cons_zero, List.set_cons_succ, i64_w, i32_w]
     rfl
    refine pure_ (i := 4) (N := some 28) (v := ?_) (a' := ?_) #[true, true, true, true, true, false, false, false, false, false, false, false, false, false] rfl rfl (any_of HT_.out (by kernel_rfl)) (fun _ _ _ h => h) (Or.inl ⟨by rfl, ?_⟩) ?_ ?_
    rotate_left
    ·intro w'
     go_simp
     with_reducible rfl
    rotate_left
    ·simp only [Act.put, List.setIfInBounds_toArray, List.set_cons_zero, List.set_cons_succ, i64_w, i32_w]
     rfl
    refine pure_ (i := 5) (N := some 29) (v := ?_) (a' := ?_) #[true, true, true, true, true, true, false, false, false, false, false, false, false, false] rfl rfl (any_of HT_.out (by kernel_rfl)) (fun _ _ _ h => h) (Or.inl ⟨by rfl, ?_⟩) ?_ ?_
    rotate_left
    ·intro w'
     go_simp
     with_reducible rfl
    rotate_left
    ·simp only [Act.put, List.setIfInBounds_toArray, List.set_cons_zero, List.set_cons_succ, i64_w, i32_w]
     rfl
    refine pure_ (i := 10) (N := some 34) (v := ?_) (a' := ?_) #[true, true, true, true, true, true, false, false, false, false, true, false, false, false] rfl rfl (any_of HT_.out (by kernel_rfl)) (fun _ _ _ h => h) (Or.inl ⟨by rfl, ?_⟩) ?_ ?_
    rotate_left
    ·intro w'
     go_simp
     with_reducible rfl
    rotate_left
    ·simp only [Act.put, List.setIfInBounds_toArray, List.set_cons_zero, List.set_cons_succ, i64_w, i32_w]
     rfl
    refine take_ (i := 6) (N := some 30) (v := ?_) (a' := ?_) #[true, true, true, true, true, true, true, false, false, false, true, false, false, false] rfl rfl (take_ofW HT_.out HW_.out (by kernel_rfl)) (fun _ _ _ h => h) (Or.inl ⟨by rfl, ?_⟩) hHeld ?_ ?_
    rotate_left
    ·rintro w' ⟨s0, s1, s2, s3, s4, s5, s6, s7, s8, s9, s10, s11, s12, s13, s14, s15, s16, s17, s18, s19, s20, s21, s22, s23⟩
     go_simp
     with_reducible rfl
    rotate_left
    ·simp only [Act.put, List.setIfInBounds_toArray, List.set_cons_zero, List.set_cons_succ, i64_w, i32_w]
     rfl
    refine pure_ (i := 7) (N := some 31) (v := ?_) (a' := ?_) #[true, true, true, true, true, true, true, true, false, false, true, false, false, false] rfl rfl (any_of HT_.out (by kernel_rfl)) (fun _ _ _ h => h) (Or.inl ⟨by rfl, ?_⟩) ?_ ?_
    rotate_left
    ·intro w'
     go_simp
     with_reducible rfl
    rotate_left
    ·simp only [Act.put, List.setIfInBounds_toArray, List.set_cons_zero, List.set_cons_succ, i64_w, i32_w]
     rfl
    refine pure_ (i := 8) (N := some 32) (v := ?_) (a' := ?_) #[true, true, true, true, true, true, true, true, true, false, true, false, false, false] rfl rfl (any_of HT_.out (by kernel_rfl)) (fun _ _ _ h => h) (Or.inl ⟨by rfl, ?_⟩) ?_ ?_
    rotate_left
    ·intro w'
     go_simp
     with_reducible rfl
    rotate_left
    ·simp only [Act.put, List.setIfInBounds_toArray, List.set_cons_zero, List.set_cons_succ, i64_w, i32_w]
     rfl
    refine take_ (i := 9) (N := some 33) (v := ?_) (a' := ?_) #[true, true, true, true, true, true, true, true, true, true, true, false, false, false] rfl rfl (take_ofW HT_.out HW_.out (by kernel_rfl)) (fun _ _ _ h => h) (Or.inl ⟨by rfl, ?_⟩) hHeld ?_ ?_
    rotate_left
    ·rintro w' ⟨s0, s1, s2, s3, s4, s5, s6, s7, s8, s9, s10, s11, s12, s13, s14, s15, s16, s17, s18, s19, s20, s21, s22, s23⟩
     go_simp
     with_reducible rfl
    rotate_left
    ·simp only [Act.put, List.setIfInBounds_toArray, List.set_cons_zero, List.set_cons_succ, i64_w, i32_w]
     rfl
    refine take_ (i := 11) (N := some 35) (v := ?_) (a' := ?_) #[true, true, true, true, true, true, true, true, true, true, true, true, false, false] rfl rfl (take_ofW HT_.out HW_.out (by kernel_rfl)) (fun _ _ _ h => h) (Or.inl ⟨by rfl, ?_⟩) hHeld ?_ ?_
    rotate_left
    ·rintro w' ⟨s0, s1, s2, s3, s4, s5, s6, s7, s8, s9, s10, s11, s12, s13, s14, s15, s16, s17, s18, s19, s20, s21, s22, s23⟩
     go_simp
     with_reducible rfl
    rotate_left
    ·simp only [Act.put, List.setIfInBounds_toArray, List.set_cons_zero, List.set_cons_succ, i64_w, i32_w]
     rfl
    refine pure_ (i := 12) (N := some 36) (v := ?_) (a' := ?_) #[true, true, true, true, true, true, true, true, true, true, true, true, true, false] rfl rfl (any_of HT_.out (by kernel_rfl)) (fun _ _ _ h => h) (Or.inl ⟨by rfl, ?_⟩) ?_ ?_
    rotate_left
    ·intro w'
     go_simp
     with_reducible rfl
    rotate_left
    ·simp only [Act.put, List.setIfInBounds_toArray, List.set_cons_zero, List.set_cons_succ, i64_w, i32_w]
     rfl
    refine pure_ (i := 13) (N := some 37) (v := ?_) (a' := ?_) #[true, true, true, true, true, true, true, true, true, true, true, true, true, true] rfl rfl (any_of HT_.out (by kernel_rfl)) (fun _ _ _ h => h) (Or.inl ⟨by rfl, ?_⟩) ?_ ?_
    rotate_left
    ·intro w'
     go_simp
     with_reducible rfl
    rotate_left
    ·simp only [Act.put, List.setIfInBounds_toArray, List.set_cons_zero, List.set_cons_succ, i64_w, i32_w]
     rfl
    refine done_ (done_of HT_.out (by kernel_rfl)) ?_
    try go_wp2
    go_meet
    case rel => exact ⟨_, ((((rd_T44 t242 0).f1) == t237)), (by first | rfl | (simp; done) | (simp [*]; done)), H', ⟨by have := HJ2.out; first | omega | exact Nat.le_refl _⟩, ⟨by first | exact Kd.R_nil _ _ _ _ _ | exact Kd.N_nil _ _ _ _ _ | exact Kd.V_nil _ _ _ _ _ | exact Kd.Q_nil _ _ _ _ _ | exact Kd.S_nil _ _ _ _ _⟩, ⟨by (with_reducible repeat (first | apply Kd.Q_alloc | apply Kd.Q_drewN | apply Kd.Q_drew)); exact HO_236005.out⟩, ⟨pB_ BK235.out⟩, ⟨pB_ BK236.out⟩, ⟨belowNow⟩⟩
   case rest =>
    clear HC29; (try clear c1); (try clear c2); (try clear p2); (try clear q2); (try clear hx2); (try clear qi2); (try clear c3); (try clear c5); (try clear c6); (try clear c12); (try clear c13); (try clear c13b0); (try clear c13b1); (try clear c14); (try clear c18); (try clear c20); (try clear c22); (try clear p24); (try clear q24); (try clear hx24); (try clear qi24); (try clear c25); (try clear c26); (try clear c30); (try clear c30b0); (try clear c30b1); (try clear c31); (try clear c31b0); (try clear c31b1); (try clear hcz15_0 hcz15_1 hcz15_2 hcz15_3 hcz15_4 hcz15_5); (try clear hcz17_0 hcz17_1 hcz17_2 hcz17_3 hcz17_4 hcz17_5); (try clear hcz19_0 hcz19_1 hcz19_2 hcz19_3 hcz19_4 hcz19_5); (try clear hcz21_0 hcz21_1 hcz21_2 hcz21_3 hcz21_4 hcz21_5); (try clear hcz23_0 hcz23_1 hcz23_2 hcz23_3 hcz23_4 hcz23_5); (try clear hcz27_0 hcz27_1 hcz27_2 hcz27_3 hcz27_4 hcz27_5); (try clear hcz28_0 hcz28_1 hcz28_2 hcz28_3 hcz28_4 hcz28_5); (try clear hcz7_0 hcz7_1 hcz7_2 hcz7_3 hcz7_4 hcz7_5); (try clear hcz9_0 hcz9_1 hcz9_2 hcz9_3 hcz9_4 hcz9_5); (try clear hfz15_0 hfz15_1 hfz15_2 hfz15_3 hfz15_4 hfz15_5); (try clear hfz17_0 hfz17_1 hfz17_2 hfz17_3 hfz17_4 hfz17_5); (try clear hfz19_0 hfz19_1 hfz19_2 hfz19_3 hfz19_4 hfz19_5); (try clear hfz21_0 hfz21_1 hfz21_2 hfz21_3 hfz21_4 hfz21_5); (try clear hfz23_0 hfz23_1 hfz23_2 hfz23_3 hfz23_4 hfz23_5); (try clear hfz27_0 hfz27_1 hfz27_2 hfz27_3 hfz27_4 hfz27_5); (try clear hfz28_0 hfz28_1 hfz28_2 hfz28_3 hfz28_4 hfz28_5); (try clear hfz7_0 hfz7_1 hfz7_2 hfz7_3 hfz7_4 hfz7_5); (try clear hfz9_0 hfz9_1 hfz9_2 hfz9_3 hfz9_4 hfz9_5); (try clear hx246_0); (try clear hx246_1); (try clear hx246_10); (try clear hx246_11); (try clear hx246_12); (try clear hx246_13); (try clear hx246_14); (try clear hx246_15); (try clear hx246_16); (try clear hx246_17); (try clear hx246_2); (try clear hx246_3); (try clear hx246_4); (try clear hx246_5); (try clear hx246_6); (try clear hx246_7); (try clear hx246_8); (try clear hx246_9); (try clear p2); (try clear p246); (try clear q246); obtain ⟨kq, x37_28, rfl, HA, HJ28, HO_5, HO_236005, BK235, BK236, HB⟩ := hcut
    cases kq with
    | zero => exact absurd HA.out (by simp [impl_Play.j1])
    | succ kj28 =>
     have H := HA.out; clear HA; simp only [impl_Play.j1] at H; have HC34 := am_ H; clear H
     go_upto_if 37 with (fail)
     go_cut [5, 6] (fun v5 v6 wc => ∃ (kq : Nat) (x5_33 : List Int) (x6_33 : Bool) (x236005_33 : List (S44)) (u236005 : Value), v6 = .bool x6_33 ∧ Aside0 (impl_Play.j2 kq x5_33 x6_33 t237 t238 t239 t240 t241 x236005_33 = some (r1, r2, r3, r4, r5, r6, r7, r8)) ∧ Aside0 (kq ≤ kj28) ∧ Aside0 (Kd.R (Kd.int .i64) 3 wc w.heap.size (fun _ => True) v5 x5_33) ∧ Aside0 (Kd.Q k44 44 wc w.heap.size (fun _ => True) u236005 x236005_33) ∧ Aside0 (wc.heap[gb235]? = some (.cells #[.int .i64 t237, .int .i64 t238, .int .i64 t239, .int .i64 t240, .int .i64 t241, u236005] 35 (0, 0))) ∧ Aside0 (wc.heap[gb236]? = some (.cells #[.int .i64 0, .int .i64 0, .int .i64 0, .int .i64 0, .int .i64 0, (.slice none 0 0)] 35 (0, 0))) ∧ Aside0 (Below w.heap.size w wc))
     case first =>
      have H := HC34.out; clear HC34
      by_cases c35 : x37_28 = true
      case neg =>
       replace c35 := Bool.eq_false_iff.mpr c35; subst c35
       have H1 : (impl_Play.j2 kj28 ([] : List Int) false t237 t238 t239 t240 t241 t242) = some (r1, r2, r3, r4, r5, r6, r7, r8) := by rw [if_neg (show ¬ (false = true) by decide)] at H; exact H
       clear H; have H := H1; clear H1
       have H' := am_ H
       clear H
       go_wp2
       go_meet
       case rel => exact ⟨_, (([] : List Int)), (false), (t242), (.slice Ao10 t242.length co10), (by first | rfl | (simp; done) | (simp [*]; done)), H', ⟨by have := HJ2.out; have := HJ28.out; first | omega | exact Nat.le_refl _⟩, ⟨pR_ HO_5.out⟩, ⟨by (with_reducible repeat (first | apply Kd.Q_alloc | apply Kd.Q_drewN | apply Kd.Q_drew)); exact HO_236005.out⟩, ⟨pB_ BK235.out⟩, ⟨pB_ BK236.out⟩, ⟨belowNow⟩⟩
      subst c35
      have H1 : (if 0 < (t242.length : Int) then ((impl_OfFrame.f kj28 t241 ((rd_T44 t242 0).f2.f0) ((rd_T44 t242 0).f2.f1) ((rd_T44 t242 0).f2.f2) ((rd_T44 t242 0).f2.f3) ((rd_T44 t242 0).f2.f4) ((rd_T44 t242 0).f2.f5) ((rd_T44 t242 0).f2.f6) ((rd_T44 t242 0).f2.f7) ((rd_T44 t242 0).f2.f8) ((rd_T44 t242 0).f2.f9) ((rd_T44 t242 0).f2.f10) ((rd_T44 t242 0).f2.f11) ((rd_T44 t242 0).f2.f12) ((rd_T44 t242 0).f2.f13) ((rd_T44 t242 0).f2.f14) ((rd_T44 t242 0).f2.f15)).bind fun bt248 => (if 1 ≤ (t242.length : Int) then (impl_Play.j2 kj28 bt248.1 bt248.2.2.2 t237 t238 t239 t240 t241 (t242.drop (1 : Int).toNat)) else (none))) else (none)) = some (r1, r2, r3, r4, r5, r6, r7, r8) := by rw [if_pos rfl] at H; exact H
      clear H; have H := H1; clear H1
      by_cases c36 : 0 < (t242.length : Int)
      case neg =>
       rw [if_neg c36] at H
       exact absurd H (by simp)
      rw [if_pos c36] at H; have c36b0 : decide (0 < (t242.length : Int)) = true := decide_eq_true c36
      have c36b1 : decide (0 < t242.length) = true := decide_eq_true (by omega)
      clear c36
      (first | rw [c36b0] | (simp only [i64_w, i32_w]; rw [c36b0]) | (rw [c36b2]; try simp only [Bool.not_false, Bool.not_true]) | skip)
      replace H := Option.bind_eq_some_iff.mp H; obtain ⟨⟨t248, t251, t252, t253⟩, A370, H⟩ := H
      replace H : (if 1 ≤ (t242.length : Int) then (impl_Play.j2 kj28 t248 t253 t237 t238 t239 t240 t241 (t242.drop (1 : Int).toNat)) else (none)) = some (r1, r2, r3, r4, r5, r6, r7, r8) := H
      have A37 := am_ A370; clear A370
      by_cases c38 : 1 ≤ (t242.length : Int)
      case neg =>
       rw [if_neg c38] at H
       exact absurd H (by simp)
      rw [if_pos c38] at H; have c38b0 := eq_true c38; have c38b1 : decide (1 ≤ (t242.length : Int)) = true := decide_eq_true c38; clear c38; obtain ⟨y254, hy254⟩ : ∃ y_ : List (S44), y_ = (t242.drop (1 : Int).toNat) := ⟨_, rfl⟩
      replace H : (impl_Play.j2 kj28 t248 t253 t237 t238 t239 t240 t241 y254) = some (r1, r2, r3, r4, r5, r6, r7, r8) := by first | (rw [hy254]; with_reducible exact H) | (have H2_ := (Option.bind_some _ _).symm.trans H; rw [hy254]; with_reducible exact H2_) | (have H2_ := (Option.bind_some _ _).symm.trans H; with_reducible exact H2_) | with_reducible exact H | (rw [hy254]; exact H) | exact H
      have Ny254 := am_ hy254; clear hy254
      have H' := am_ H
      clear H
      try go_wp2
      have n0_ := am_ (Kd.R_drew HO_5.out); have n1_ := am_ (Kd.Q_drew HO_236005.out); have n2_ := am_ (blk_drew BK235.out); have n3_ := am_ (blk_drew BK236.out); have n4_ := am_ (below_drew1 HB.out); clear HO_5 HO_236005 BK235 BK236 HB; have HO_5 := n0_; have HO_236005 := n1_; have BK235 := n2_; have BK236 := n3_; have HB := n4_; clear n0_ n1_ n2_ n3_ n4_
      have p247 : 0 ≤ (0 : Int) := (by omega)
      have q247 : 0 < (t242.length : Int) := of_decide_eq_true (by first | (with_reducible assumption) | assumption)
      obtain ⟨ad247, e247, hx247_0, hx247_1, hx247_2, hx247_3, hx247_4, hx247_5, hx247_6, hx247_7, hx247_8, hx247_9, hx247_10, hx247_11, hx247_12, hx247_13, hx247_14, hx247_15, hx247_16, hx247_17⟩ := at_T44 (Kd.Q_reads' HO_236005.out).2.2 0 p247 q247
      cases e247
      have qi247 : (0 < t242.length) = True := eq_true (by omega)
      (try rw [show ((0 : Int)).toNat = 0 from rfl] at hx247_0)
      (try rw [show 0 * 18 = 0 from rfl] at hx247_0)
      (try rw [Addr.add_zero'] at hx247_0)
      (try rw [show ((0 : Int)).toNat = 0 from rfl] at hx247_1)
      (try rw [show 0 * 18 = 0 from rfl] at hx247_1)
      (try rw [Addr.add_zero'] at hx247_1)
      (try rw [show ((0 : Int)).toNat = 0 from rfl] at hx247_2)
      (try rw [show 0 * 18 = 0 from rfl] at hx247_2)
      (try rw [Addr.add_zero'] at hx247_2)
      (try rw [show ((0 : Int)).toNat = 0 from rfl] at hx247_3)
      (try rw [show 0 * 18 = 0 from rfl] at hx247_3)
      (try rw [Addr.add_zero'] at hx247_3)
      (try rw [show ((0 : Int)).toNat = 0 from rfl] at hx247_4)
      (try rw [show 0 * 18 = 0 from rfl] at hx247_4)
      (try rw [Addr.add_zero'] at hx247_4)
      (try rw [show ((0 : Int)).toNat = 0 from rfl] at hx247_5)
      (try rw [show 0 * 18 = 0 from rfl] at hx247_5)
      (try rw [Addr.add_zero'] at hx247_5)
      (try rw [show ((0 : Int)).toNat = 0 from rfl] at hx247_6)
      (try rw [show 0 * 18 = 0 from rfl] at hx247_6)
      (try rw [Addr.add_zero'] at hx247_6)
      (try rw [show ((0 : Int)).toNat = 0 from rfl] at hx247_7)
      (try rw [show 0 * 18 = 0 from rfl] at hx247_7)
      (try rw [Addr.add_zero'] at hx247_7)
      (try rw [show ((0 : Int)).toNat = 0 from rfl] at hx247_8)
      (try rw [show 0 * 18 = 0 from rfl] at hx247_8)
      (try rw [Addr.add_zero'] at hx247_8)
      (try rw [show ((0 : Int)).toNat = 0 from rfl] at hx247_9)
      (try rw [show 0 * 18 = 0 from rfl] at hx247_9)
      (try rw [Addr.add_zero'] at hx247_9)
      (try rw [show ((0 : Int)).toNat = 0 from rfl] at hx247_10)
      (try rw [show 0 * 18 = 0 from rfl] at hx247_10)
      (try rw [Addr.add_zero'] at hx247_10)
      (try rw [show ((0 : Int)).toNat = 0 from rfl] at hx247_11)
      (try rw [show 0 * 18 = 0 from rfl] at hx247_11)
      (try rw [Addr.add_zero'] at hx247_11)
      (try rw [show ((0 : Int)).toNat = 0 from rfl] at hx247_12)
      (try rw [show 0 * 18 = 0 from rfl] at hx247_12)
      (try rw [Addr.add_zero'] at hx247_12)
      (try rw [show ((0 : Int)).toNat = 0 from rfl] at hx247_13)
      (try rw [show 0 * 18 = 0 from rfl] at hx247_13)
      (try rw [Addr.add_zero'] at hx247_13)
      (try rw [show ((0 : Int)).toNat = 0 from rfl] at hx247_14)
      (try rw [show 0 * 18 = 0 from rfl] at hx247_14)
      (try rw [Addr.add_zero'] at hx247_14)
      (try rw [show ((0 : Int)).toNat = 0 from rfl] at hx247_15)
      (try rw [show 0 * 18 = 0 from rfl] at hx247_15)
      (try rw [Addr.add_zero'] at hx247_15)
      (try rw [show ((0 : Int)).toNat = 0 from rfl] at hx247_16)
      (try rw [show 0 * 18 = 0 from rfl] at hx247_16)
      (try rw [Addr.add_zero'] at hx247_16)
      (try rw [show ((0 : Int)).toNat = 0 from rfl] at hx247_17)
      (try rw [show 0 * 18 = 0 from rfl] at hx247_17)
      (try rw [Addr.add_zero'] at hx247_17)
      replace p247 := eq_true p247; replace q247 := eq_true q247
      refine start_ (n := 14) (S := fun w' => w'.cell? ⟨gb235, 0, none⟩ = some (.int .i64 t237) ∧ w'.cell? ⟨gb235, 1, none⟩ = some (.int .i64 t238) ∧ w'.cell? ⟨gb235, 2, none⟩ = some (.int .i64 t239) ∧ w'.cell? ⟨gb235, 3, none⟩ = some (.int .i64 t240) ∧ w'.cell? ⟨gb235, 4, none⟩ = some (.int .i64 t241) ∧ w'.cell? ⟨gb235, 5, none⟩ = some (.slice (some ad247) t242.length co10) ∧ w'.cell? ad247 = some (.int .i64 ((rd_T44 t242 0).f0)) ∧ w'.cell? ⟨ad247.block, ad247.off + 1, none⟩ = some (.int .i64 ((rd_T44 t242 0).f1)) ∧ w'.cell? ⟨ad247.block, ad247.off + 2, none⟩ = some (.int .u8 ((rd_T44 t242 0).f2.f0)) ∧ w'.cell? ⟨ad247.block, ad247.off + 3, none⟩ = some (.int .u8 ((rd_T44 t242 0).f2.f1)) ∧ w'.cell? ⟨ad247.block, ad247.off + 4, none⟩ = some (.int .u8 ((rd_T44 t242 0).f2.f2)) ∧ w'.cell? ⟨ad247.block, ad247.off + 5, none⟩ = some (.int .u8 ((rd_T44 t242 0).f2.f3)) ∧ w'.cell? ⟨ad247.block, ad247.off + 6, none⟩ = some (.int .u8 ((rd_T44 t242 0).f2.f4)) ∧ w'.cell? ⟨ad247.block, ad247.off + 7, none⟩ = some (.int .u8 ((rd_T44 t242 0).f2.f5)) ∧ w'.cell? ⟨ad247.block, ad247.off + 8, none⟩ = some (.int .u8 ((rd_T44 t242 0).f2.f6)) ∧ w'.cell? ⟨ad247.block, ad247.off + 9, none⟩ = some (.int .u8 ((rd_T44 t242 0).f2.f7)) ∧ w'.cell? ⟨ad247.block, ad247.off + 10, none⟩ = some (.int .u8 ((rd_T44 t242 0).f2.f8)) ∧ w'.cell? ⟨ad247.block, ad247.off + 11, none⟩ = some (.int .u8 ((rd_T44 t242 0).f2.f9)) ∧ w'.cell? ⟨ad247.block, ad247.off + 12, none⟩ = some (.int .u8 ((rd_T44 t242 0).f2.f10)) ∧ w'.cell? ⟨ad247.block, ad247.off + 13, none⟩ = some (.int .u8 ((rd_T44 t242 0).f2.f11)) ∧ w'.cell? ⟨ad247.block, ad247.off + 14, none⟩ = some (.int .u8 ((rd_T44 t242 0).f2.f12)) ∧ w'.cell? ⟨ad247.block, ad247.off + 15, none⟩ = some (.int .u8 ((rd_T44 t242 0).f2.f13)) ∧ w'.cell? ⟨ad247.block, ad247.off + 16, none⟩ = some (.int .u8 ((rd_T44 t242 0).f2.f14)) ∧ w'.cell? ⟨ad247.block, ad247.off + 17, none⟩ = some (.int .u8 ((rd_T44 t242 0).f2.f15))) (ds := []) #[false, false, false, false, false, false, false, false, false, false, false, false, false, false] (by kernel_rfl) rfl rfl ⟨(blk_cell BK235.out 0).trans rfl, (blk_cell BK235.out 1).trans rfl, (blk_cell BK235.out 2).trans rfl, (blk_cell BK235.out 3).trans rfl, (blk_cell BK235.out 4).trans rfl, (blk_cell BK235.out 5).trans rfl, hx247_0, hx247_1, hx247_2, hx247_3, hx247_4, hx247_5, hx247_6, hx247_7, hx247_8, hx247_9, hx247_10, hx247_11, hx247_12, hx247_13, hx247_14, hx247_15, hx247_16, hx247_17⟩ (fun hHeld => ?_); refine with_tabW impl_Play.tab7 impl_Play.bits7 (fun HT_ HW_ => ?_)
      generalize wc.drew = w39 at HO_5 HO_236005 BK235 BK236 HB hx247_0 hx247_1 hx247_10 hx247_11 hx247_12 hx247_13 hx247_14 hx247_15 hx247_16 hx247_17 hx247_2 hx247_3 hx247_4 hx247_5 hx247_6 hx247_7 hx247_8 hx247_9 hHeld ⊢
      refine pure_ (i := 0) (N := some 39) (v := ?_) (a' := ?_) #[true, false, false, false, false, false, false, false, false, false, false, false, false, false] rfl rfl (any_of HT_.out (by kernel_rfl)) (fun _ _ _ h => h) (Or.inl ⟨by rfl, ?_⟩) ?_ ?_
      rotate_left
      ·intro w'
       go_simp
       with_reducible rfl
      rotate_left
      ·simp only [Act.put, List.setIfInBounds_toArray, List.set_cons_zero, List.set_cons_succ, i64_w, i32_w]
       rfl
      refine pure_ (i := 2) (N := some 41) (v := ?_) (a' := ?_) #[true, false, true, false, false, false, false, false, false, false, false, false, false, false] rfl rfl (any_of HT_.out (by kernel_rfl)) (fun _ _ _ h => h) (Or.inl ⟨by rfl, ?_⟩) ?_ ?_
      rotate_left
      ·intro w'
       go_simp
       with_reducible rfl
      rotate_left
      ·simp only [Act.put, List.setIfInBounds_toArray, List.set_cons_zero, List.set_cons_succ, i64_w, i32_w]
       rfl
      refine take_ (i := 1) (N := some 40) (v := ?_) (a' := ?_) #[true, true, true, false, false, false, false, false, false, false, false, false, false, false] rfl rfl (take_ofW HT_.out HW_.out (by kernel_rfl)) (fun _ _ _ h => h) (Or.inl ⟨by rfl, ?_⟩) hHeld ?_ ?_
      rotate_left
      ·rintro w' ⟨s0, s1, s2, s3, s4, s5, s6, s7, s8, s9, s10, s11, s12, s13, s14, s15, s16, s17, s18, s19, s20, s21, s22, s23⟩
       go_simp
       with_reducible rfl
      rotate_left
      ·simp only [Act.put, List.setIfInBounds_toArray, List.set_cons_zero, List.set_cons_succ, i64_w, i32_w]
       rfl
      refine take_ (i := 3) (N := some 42) (v := ?_) (a' := ?_) #[true, true, true, true, false, false, false, false, false, false, false, false, false, false] rfl rfl (take_ofW HT_.out HW_.out (by kernel_rfl)) (fun _ _ _ h => h) (Or.inl ⟨by rfl, ?_⟩) hHeld ?_ ?_
      rotate_left
      ·rintro w' ⟨s0, s1, s2, s3, s4, s5, s6, s7, s8, s9, s10, s11, s12, s13, s14, s15, s16, s17, s18, s19, s20, s21, s22, s23⟩
       go_simp
       with_reducible rfl
      rotate_left
      ·simp only [Act.put, List.setIfInBounds_toArray, List.set_cons_zero, List.set_cons_succ, i64_w, i32_w]
       rfl
      refine pure_ (i := 4) (N := some 43) (v := ?_) (a' := ?_) #[true, true, true, true, true, false, false, false, false, false, false, false, false, false] rfl rfl (any_of HT_.out (by kernel_rfl)) (fun _ _ _ h => h) (Or.inl ⟨by rfl, ?_⟩) ?_ ?_
      rotate_left
      ·intro w'
       go_simp
       with_reducible rfl
      rotate_left
      ·simp only [Act.put, List.setIfInBounds_toArray, List.set_cons_zero, List.set_cons_succ, i64_w, i32_w]
       rfl
      refine pure_ (i := 5) (N := some 44) (v := ?_) (a' := ?_) #[true, true, true, true, true, true, false, false, false, false, false, false, false, false] rfl rfl (any_of HT_.out (by kernel_rfl)) (fun _ _ _ h => h) (Or.inl ⟨by rfl, ?_⟩) ?_ ?_
      rotate_left
      ·intro w'
       go_simp
       with_reducible rfl
      rotate_left
      ·simp only [Act.put, List.setIfInBounds_toArray, List.set_cons_zero, List.set_cons_succ, i64_w, i32_w]
       rfl
      refine take_ (i := 6) (N := some 45) (v := ?_) (a' := ?_) #[true, true, true, true, true, true, true, false, false, false, false, false, false, false] rfl rfl (take_ofW HT_.out HW_.out (by kernel_rfl)) (fun _ _ _ h => h) (Or.inl ⟨by rfl, ?_⟩) hHeld ?_ ?_
      rotate_left
      ·rintro w' ⟨s0, s1, s2, s3, s4, s5, s6, s7, s8, s9, s10, s11, s12, s13, s14, s15, s16, s17, s18, s19, s20, s21, s22, s23⟩
       go_simp
       with_reducible rfl
      rotate_left
      ·simp only [Act.put, List.setIfInBounds_toArray, List.set_cons_zero, List.set_cons_succ, i64_w, i32_w]
       rfl
      refine one_ (i := 7) (N := some 46) #[true, true, true, true, true, true, true, true, false, false, false, false, false, false] rfl rfl (one_of HT_.out (by kernel_rfl)) (by decide) (fun K hK => ?_)
      refine goes_ Try.func60 (by kernel_rfl) rfl #[.int .i64 t241, .agg #[.int .u8 ((rd_T44 t242 0).f2.f0), .int .u8 ((rd_T44 t242 0).f2.f1), .int .u8 ((rd_T44 t242 0).f2.f2), .int .u8 ((rd_T44 t242 0).f2.f3), .int .u8 ((rd_T44 t242 0).f2.f4), .int .u8 ((rd_T44 t242 0).f2.f5), .int .u8 ((rd_T44 t242 0).f2.f6), .int .u8 ((rd_T44 t242 0).f2.f7), .int .u8 ((rd_T44 t242 0).f2.f8), .int .u8 ((rd_T44 t242 0).f2.f9), .int .u8 ((rd_T44 t242 0).f2.f10), .int .u8 ((rd_T44 t242 0).f2.f11), .int .u8 ((rd_T44 t242 0).f2.f12), .int .u8 ((rd_T44 t242 0).f2.f13), .int .u8 ((rd_T44 t242 0).f2.f14), .int .u8 ((rd_T44 t242 0).f2.f15)]] (by rfl) rfl rfl (by (try simp only [List.map_toArray, List.map_cons, List.map_nil]); first | done | rfl | (simp only [List.length_drop, List.length_take]; rfl)) ?_
      with_reducible refine (impl_OfFrame.calls kj28 t241 ((rd_T44 t242 0).f2.f0) ((rd_T44 t242 0).f2.f1) ((rd_T44 t242 0).f2.f2) ((rd_T44 t242 0).f2.f3) ((rd_T44 t242 0).f2.f4) ((rd_T44 t242 0).f2.f5) ((rd_T44 t242 0).f2.f6) ((rd_T44 t242 0).f2.f7) ((rd_T44 t242 0).f2.f8) ((rd_T44 t242 0).f2.f9) ((rd_T44 t242 0).f2.f10) ((rd_T44 t242 0).f2.f11) ((rd_T44 t242 0).f2.f12) ((rd_T44 t242 0).f2.f13) ((rd_T44 t242 0).f2.f14) ((rd_T44 t242 0).f2.f15) t248 t251 t252 t253 _ A37.out).mono ?_
      rintro e w40 ⟨v249, rfl, ho0, hb⟩
      have HS6_ := Far.cb_ hb (hHeld.2.2.2.2.2.2.1); have HS7_ := Far.cb_ hb (hHeld.2.2.2.2.2.2.2.1); have HS8_ := Far.cb_ hb (hHeld.2.2.2.2.2.2.2.2.1); have HS9_ := Far.cb_ hb (hHeld.2.2.2.2.2.2.2.2.2.1); have HS10_ := Far.cb_ hb (hHeld.2.2.2.2.2.2.2.2.2.2.1); have HS11_ := Far.cb_ hb (hHeld.2.2.2.2.2.2.2.2.2.2.2.1); have HS12_ := Far.cb_ hb (hHeld.2.2.2.2.2.2.2.2.2.2.2.2.1); have HS13_ := Far.cb_ hb (hHeld.2.2.2.2.2.2.2.2.2.2.2.2.2.1); have HS14_ := Far.cb_ hb (hHeld.2.2.2.2.2.2.2.2.2.2.2.2.2.2.1); have HS15_ := Far.cb_ hb (hHeld.2.2.2.2.2.2.2.2.2.2.2.2.2.2.2.1); have HS16_ := Far.cb_ hb (hHeld.2.2.2.2.2.2.2.2.2.2.2.2.2.2.2.2.1); have HS17_ := Far.cb_ hb (hHeld.2.2.2.2.2.2.2.2.2.2.2.2.2.2.2.2.2.1); have HS18_ := Far.cb_ hb (hHeld.2.2.2.2.2.2.2.2.2.2.2.2.2.2.2.2.2.2.1); have HS19_ := Far.cb_ hb (hHeld.2.2.2.2.2.2.2.2.2.2.2.2.2.2.2.2.2.2.2.1); have HS20_ := Far.cb_ hb (hHeld.2.2.2.2.2.2.2.2.2.2.2.2.2.2.2.2.2.2.2.2.1); have HS21_ := Far.cb_ hb (hHeld.2.2.2.2.2.2.2.2.2.2.2.2.2.2.2.2.2.2.2.2.2.1); have HS22_ := Far.cb_ hb (hHeld.2.2.2.2.2.2.2.2.2.2.2.2.2.2.2.2.2.2.2.2.2.2.1); have HS23_ := Far.cb_ hb (hHeld.2.2.2.2.2.2.2.2.2.2.2.2.2.2.2.2.2.2.2.2.2.2.2)
      refine ⟨_, rfl, ?_⟩
      have n0_ := am_ (Kd.R_elder' (pR_ HO_5.out) (Kd.R_base ho0) hb)
      have n1_ := am_ (Kd.Q_below (by (with_reducible repeat (first | apply Kd.Q_alloc | apply Kd.Q_drewN | apply Kd.Q_drew)); exact HO_236005.out) hb)
      have n2_ := am_ (Kd.R_lower (Kd.R_new' ho0 (Kd.R_lt (pR_ HO_5.out))) (below_size belowNow))
      have n3_ := am_ (blkStep (g := gb235) hb); have n4_ := am_ (blkStep (g := gb236) hb); have n5_ := am_ (below_step belowNow hb); clear HO_5 HO_236005 BK235 BK236 HB; have HO_5 := n0_; have HO_236005 := n1_; have HO250 := n2_; have BK235 := n3_; have BK236 := n4_; have HB := n5_; clear n0_ n1_ n2_ n3_ n4_ n5_; (try clear hb); (try clear hb2); (try clear hk); (try clear hi); (try clear ho0)
      refine hK.out _ _ ⟨(blk_cell BK235.out 0).trans rfl, (blk_cell BK235.out 1).trans rfl, (blk_cell BK235.out 2).trans rfl, (blk_cell BK235.out 3).trans rfl, (blk_cell BK235.out 4).trans rfl, (blk_cell BK235.out 5).trans rfl, HS6_, HS7_, HS8_, HS9_, HS10_, HS11_, HS12_, HS13_, HS14_, HS15_, HS16_, HS17_, HS18_, HS19_, HS20_, HS21_, HS22_, HS23_⟩ (fun hHeld => ?_)
      clear hK K
      refine norm_ (a' := ?_) ?_ ?_
      rotate_left
      ·show Act.put _ (some 46) _ = _
       simp only [Act.put, List.setIfInBounds_toArray, List.set_cons_zero, List.set_cons_succ, i64_w, i32_w]
       rfl
      refine pure_ (i := 8) (N := some 38) (v := ?_) (a' := ?_) #[true, true, true, true, true, true, true, true, true, false, false, false, false, false] rfl rfl (any_of HT_.out (by kernel_rfl)) (fun _ _ _ h => h) (Or.inl ⟨by rfl, ?_⟩) ?_ ?_
      rotate_left
      ·intro w'
       go_simp
       with_reducible rfl
      rotate_left
      ·simp only [Act.put, List.setIfInBounds_toArray, List.set_cons_zero, List.set_cons_succ, i64_w, i32_w]
       rfl
      refine pure_ (i := 9) (N := some 47) (v := ?_) (a' := ?_) #[true, true, true, true, true, true, true, true, true, true, false, false, false, false] rfl rfl (any_of HT_.out (by kernel_rfl)) (fun _ _ _ h => h) (Or.inl ⟨by rfl, ?_⟩) ?_ ?_
      rotate_left
      ·intro w'
       go_simp
       with_reducible rfl
      rotate_left
      ·simp only [Act.put, List.setIfInBounds_toArray, List.set_cons_zero, List.set_cons_succ, i64_w, i32_w]
       rfl
      refine pure_ (i := 10) (N := some 48) (v := ?_) (a' := ?_) #[true, true, true, true, true, true, true, true, true, true, true, false, false, false] rfl rfl (any_of HT_.out (by kernel_rfl)) (fun _ _ _ h => h) (Or.inl ⟨by rfl, ?_⟩) ?_ ?_
      rotate_left
      ·intro w'
       go_simp
       with_reducible rfl
      rotate_left
      ·simp only [Act.put, List.setIfInBounds_toArray, List.set_cons_zero, List.set_cons_succ, i64_w, i32_w]
       rfl
      refine pure_ (i := 11) (N := some 49) (v := ?_) (a' := ?_) #[true, true, true, true, true, true, true, true, true, true, true, true, false, false] rfl rfl (any_of HT_.out (by kernel_rfl)) (fun _ _ _ h => h) (Or.inl ⟨by rfl, ?_⟩) ?_ ?_
      rotate_left
      ·intro w'
       go_simp
       with_reducible rfl
      rotate_left
      ·simp only [Act.put, List.setIfInBounds_toArray, List.set_cons_zero, List.set_cons_succ, i64_w, i32_w]
       rfl
      refine pure_ (i := 12) (N := some 5) (v := ?_) (a' := ?_) #[true, true, true, true, true, true, true, true, true, true, true, true, true, false] rfl rfl (any_of HT_.out (by kernel_rfl)) (fun _ _ _ h => h) (Or.inl ⟨by rfl, ?_⟩) ?_ ?_
      rotate_left
      ·intro w'
       go_simp
       with_reducible rfl
      rotate_left
      ·simp only [Act.put, List.setIfInBounds_toArray, List.set_cons_zero, List.set_cons_succ, i64_w, i32_w]
       rfl
      refine pure_ (i := 13) (N := some 6) (v := ?_) (a' := ?_) #[true, true, true, true, true, true, true, true, true, true, true, true, true, true] rfl rfl (any_of HT_.out (by kernel_rfl)) (fun _ _ _ h => h) (Or.inl ⟨by rfl, ?_⟩) ?_ ?_
      rotate_left
      ·intro w'
       go_simp
       with_reducible rfl
      rotate_left
      ·simp only [Act.put, List.setIfInBounds_toArray, List.set_cons_zero, List.set_cons_succ, i64_w, i32_w]
       rfl
      refine done_ (done_of HT_.out (by kernel_rfl)) ?_
      have ⟨hnb41, hnc41⟩ := nn11_ NB235_236.out; have hcz42_0 := cz11_ BK235.out 0 rfl; have hcz42_1 := cz11_ BK235.out 1 rfl; have hcz42_2 := cz11_ BK235.out 2 rfl; have hcz42_3 := cz11_ BK235.out 3 rfl; have hcz42_4 := cz11_ BK235.out 4 rfl; have hcz42_5 := cz11_ BK235.out 5 rfl; have hfz42_0 := blk_frozen BK235.out 0; have hfz42_1 := blk_frozen BK235.out 1; have hfz42_2 := blk_frozen BK235.out 2; have hfz42_3 := blk_frozen BK235.out 3; have hfz42_4 := blk_frozen BK235.out 4; have hfz42_5 := blk_frozen BK235.out 5
      have q43 : (1 : Int) ≤ ((t242.length : Int) : Int) := of_decide_eq_true (by first | (with_reducible assumption) | assumption)
      obtain ⟨i043, hi043, _, hsz43, _⟩ := info_parts info44
      have hcut43 := cut_from (P := Try.prog) 26 44 .i64 Try.underlying26 hi043 18 hsz43 (some ad247) t242.length co10 1 (by omega) q43
      have hr43 := Kd.Q_drop (k := (1 : Int).toNat) HO_236005.out (by omega)
      obtain ⟨A43, hA43⟩ : ∃ A1, A1 = (if co10 = (1 : Int).toNat then (some ad247) else ((some ad247) : Option Addr).map (·.add ((1 : Int).toNat * 18))) := ⟨_, rfl⟩; obtain ⟨c43, hc43⟩ : ∃ c1, c1 = co10 - (1 : Int).toNat := ⟨_, rfl⟩
      have hy43 : y254.length = t242.length - (1 : Int).toNat := (by rw [Ny254.out, List.length_drop])
      rw [← Ny254.out] at hr43; rw [← hy43, ← hA43, ← hc43] at hcut43
      replace hr43 : Kd.Q k44 44 w40 w.heap.size (fun _ => True) (.slice A43 y254.length c43) y254 := (by rw [hA43, hc43, hy43]; exact hr43)
      have HE43 : Aside0 ((Value.slice A43 y254.length c43).ownBlock = (.slice (some ad247) t242.length co10 : Value).ownBlock) := ⟨by rw [hA43]; split <;> (cases ((some ad247) : Option Addr) <;> rfl)⟩
      clear hy43 hi043 hsz43 HO_236005 hA43 hc43; have HO256 := am_ hr43; clear hr43; replace q43 := eq_true q43
      try go_wp2
      go_meet
      case rel => exact ⟨_, (t248), (t253), (y254), (.slice A43 y254.length c43), (by first | rfl | (simp; done) | (simp [*]; done)), H', ⟨by have := HJ2.out; have := HJ28.out; first | omega | exact Nat.le_refl _⟩, ⟨by (with_reducible repeat (first | apply Kd.R_alloc | apply Kd.R_drewN | apply Kd.R_drew)); exact Kd.R_mono (Kd.R_far (p := ⟨gb235, 5, none⟩) (Kd.R_types HO250.out BK235.out (by decide)) (fun _ hk => hk.2) (.slice A43 y254.length c43)) (fun _ hk => trivial)⟩, ⟨by (with_reducible repeat (first | apply Kd.Q_alloc | apply Kd.Q_drewN | apply Kd.Q_drew)); exact Kd.Q_mono (Kd.Q_far (p := ⟨gb235, 5, none⟩) (Kd.Q_types HO256.out BK235.out (by decide)) (fun _ hk => hk.2) (.slice A43 y254.length c43)) (fun _ hk => trivial)⟩, ⟨by (with_reducible repeat (first | refine blk_drewN ?_ _ | refine blk_drew ?_ | refine blk_alloc ?_ _)); refine blk_put (cs := #[.int .i64 t237, .int .i64 t238, .int .i64 t239, .int .i64 t240, .int .i64 t241, .slice (some ad247) t242.length co10]) ?_ 5 _ rfl; (with_reducible repeat (first | refine blk_drewN ?_ _ | refine blk_drew ?_ | refine blk_alloc ?_ _)); exact BK235.out⟩, ⟨blkFars⟩, ⟨belowNow⟩⟩
     case rest =>
      clear HC34; (try clear c1); (try clear c2); (try clear p2); (try clear q2); (try clear hx2); (try clear qi2); (try clear c3); (try clear c4); (try clear q4); (try clear c5); (try clear c6); (try clear c12); (try clear c13); (try clear c13b0); (try clear c13b1); (try clear c14); (try clear c18); (try clear c20); (try clear c22); (try clear p24); (try clear q24); (try clear hx24); (try clear qi24); (try clear c25); (try clear c26); (try clear c30); (try clear c30b0); (try clear c30b1); (try clear c31); (try clear c31b0); (try clear c31b1); (try clear c35); (try clear c36); (try clear c36b0); (try clear c36b1); (try clear c38); (try clear c38b0); (try clear c38b1); (try clear c41); (try clear c43); (try clear q43); (try clear hcz15_0 hcz15_1 hcz15_2 hcz15_3 hcz15_4 hcz15_5); (try clear hcz17_0 hcz17_1 hcz17_2 hcz17_3 hcz17_4 hcz17_5); (try clear hcz19_0 hcz19_1 hcz19_2 hcz19_3 hcz19_4 hcz19_5); (try clear hcz21_0 hcz21_1 hcz21_2 hcz21_3 hcz21_4 hcz21_5); (try clear hcz23_0 hcz23_1 hcz23_2 hcz23_3 hcz23_4 hcz23_5); (try clear hcz27_0 hcz27_1 hcz27_2 hcz27_3 hcz27_4 hcz27_5); (try clear hcz28_0 hcz28_1 hcz28_2 hcz28_3 hcz28_4 hcz28_5); (try clear hcz42_0 hcz42_1 hcz42_2 hcz42_3 hcz42_4 hcz42_5); (try clear hcz7_0 hcz7_1 hcz7_2 hcz7_3 hcz7_4 hcz7_5); (try clear hcz9_0 hcz9_1 hcz9_2 hcz9_3 hcz9_4 hcz9_5); (try clear hfz15_0 hfz15_1 hfz15_2 hfz15_3 hfz15_4 hfz15_5); (try clear hfz17_0 hfz17_1 hfz17_2 hfz17_3 hfz17_4 hfz17_5); (try clear hfz19_0 hfz19_1 hfz19_2 hfz19_3 hfz19_4 hfz19_5); (try clear hfz21_0 hfz21_1 hfz21_2 hfz21_3 hfz21_4 hfz21_5); (try clear hfz23_0 hfz23_1 hfz23_2 hfz23_3 hfz23_4 hfz23_5); (try clear hfz27_0 hfz27_1 hfz27_2 hfz27_3 hfz27_4 hfz27_5); (try clear hfz28_0 hfz28_1 hfz28_2 hfz28_3 hfz28_4 hfz28_5); (try clear hfz42_0 hfz42_1 hfz42_2 hfz42_3 hfz42_4 hfz42_5); (try clear hfz7_0 hfz7_1 hfz7_2 hfz7_3 hfz7_4 hfz7_5); (try clear hfz9_0 hfz9_1 hfz9_2 hfz9_3 hfz9_4 hfz9_5); (try clear hx246_0); (try clear hx246_1); (try clear hx246_10); (try clear hx246_11); (try clear hx246_12); (try clear hx246_13); (try clear hx246_14); (try clear hx246_15); (try clear hx246_16); (try clear hx246_17); (try clear hx246_2); (try clear hx246_3); (try clear hx246_4); (try clear hx246_5); (try clear hx246_6); (try clear hx246_7); (try clear hx246_8); (try clear hx246_9); (try clear hx247_0); (try clear hx247_1); (try clear hx247_10); (try clear hx247_11); (try clear hx247_12); (try clear hx247_13); (try clear hx247_14); (try clear hx247_15); (try clear hx247_16); (try clear hx247_17); (try clear hx247_2); (try clear hx247_3); (try clear hx247_4); (try clear hx247_5); (try clear hx247_6); (try clear hx247_7); (try clear hx247_8); (try clear hx247_9); (try clear p2); (try clear p24); (try clear p246); (try clear p247); (try clear q2); (try clear q24); (try clear q246); (try clear q247); (try clear q43); obtain ⟨kq, x5_33, x6_33, x236005_33, u236005, rfl, HA, HJ33, HO_5, HO_236005, BK235, BK236, HB⟩ := hcut
      cases kq with
      | zero => exact absurd HA.out (by simp [impl_Play.j2])
      | succ kj33 =>
       have H := HA.out; clear HA; simp only [impl_Play.j2] at H
       by_cases c44 : x6_33 = true
       case pos =>
        subst c44
        have H1 : (if 29 < (x5_33.length : Int) then (some (wrap64 (t237 + 1), t238, t239, t240, rd x5_33 29, x236005_33, x5_33, true)) else (none)) = some (r1, r2, r3, r4, r5, r6, r7, r8) := by rw [if_pos rfl] at H; exact H
        clear H; have H := H1; clear H1
        by_cases c45 : 29 < (x5_33.length : Int)
        case neg =>
         rw [if_neg c45] at H
         exact absurd H (by simp)
        rw [if_pos c45] at H; have c45b0 : decide (29 < (x5_33.length : Int)) = true := decide_eq_true c45
        have c45b1 : decide (29 < x5_33.length) = true := decide_eq_true (by omega)
        clear c45; simp only [Option.some.injEq, Prod.mk.injEq] at H; obtain ⟨rfl, rfl, rfl, rfl, rfl, rfl, rfl, rfl⟩ := H; have ⟨hnb46, hnc46⟩ := nn11_ NB235_236.out; have hcz47_0 := cz11_ BK235.out 0 rfl; have hcz47_1 := cz11_ BK235.out 1 rfl; have hcz47_2 := cz11_ BK235.out 2 rfl; have hcz47_3 := cz11_ BK235.out 3 rfl; have hcz47_4 := cz11_ BK235.out 4 rfl; have hcz47_5 := cz11_ BK235.out 5 rfl; have hfz47_0 := blk_frozen BK235.out 0; have hfz47_1 := blk_frozen BK235.out 1; have hfz47_2 := blk_frozen BK235.out 2; have hfz47_3 := blk_frozen BK235.out 3; have hfz47_4 := blk_frozen BK235.out 4; have hfz47_5 := blk_frozen BK235.out 5; obtain ⟨Ao48, co48, eo48⟩ := Kd.R_slice HO_5.out; subst eo48
        have p257 : 0 ≤ (29 : Int) := (by omega)
        have q257 : 29 < (x5_33.length : Int) := of_decide_eq_true (by first | (with_reducible assumption) | assumption)
        obtain ⟨ad257, e257, hx257_0⟩ := Kd.at_int (Kd.R_reads' HO_5.out).2.2 29 p257 q257
        cases e257
        (try simp only [show (29 : Int).toNat = 29 from rfl, Nat.reduceMul, Nat.reduceEqDiff, Go.Addr.add, ↓reduceIte] at hx257_0)
        have qi257 : (29 < x5_33.length) = True := eq_true (by omega)
        (try rw [show ((29 : Int)).toNat = 29 from rfl] at hx257_0)
        have hn257_0 : ad257.block ≠ gb235 := Kd.own_blk (Kd.R_ne HO_5.out BK235.out (by decide))
        replace hx257_0 := (cell_far (p := ⟨gb235, 0, none⟩) (by first | (rw [add_block]; exact hn257_0) | (show (Addr.add _ _).block ≠ _; rw [add_block]; exact hn257_0) | exact hn257_0) (.int .i64 (wrap64 (t237 + 1)))).trans hx257_0
        clear hn257_0; replace p257 := eq_true p257; replace q257 := eq_true q257; have hcz49_0 := cz11_ BK236.out 0 rfl; have hcz49_1 := cz11_ BK236.out 1 rfl; have hcz49_2 := cz11_ BK236.out 2 rfl; have hcz49_3 := cz11_ BK236.out 3 rfl; have hcz49_4 := cz11_ BK236.out 4 rfl; have hcz49_5 := cz11_ BK236.out 5 rfl; have hfz49_0 := blk_frozen BK236.out 0; have hfz49_1 := blk_frozen BK236.out 1; have hfz49_2 := blk_frozen BK236.out 2; have hfz49_3 := blk_frozen BK236.out 3; have hfz49_4 := blk_frozen BK236.out 4; have hfz49_5 := blk_frozen BK236.out 5; obtain ⟨Ao50, co50, eo50, _⟩ := Kd.Q_slice HO_236005.out; subst eo50
        go_wp2
        refine bodyPost_ret (results_ctt rfl _ _ gb236 35 #[.int .i64 (wrap64 (t237 + 1)), .int .i64 t238, .int .i64 t239, .int .i64 t240, .int .i64 (rd x5_33 29), .slice Ao50 x236005_33.length co50] (0, 0) _ rfl (by (with_reducible repeat (first | refine blk_drewN ?_ _ | refine blk_drew ?_ | refine blk_alloc ?_ _)); refine Far.put6_ #[.int .i64 0, .int .i64 0, .int .i64 0, .int .i64 0, .int .i64 0, .slice none 0 0] rfl ?_; (with_reducible repeat (first | refine blk_drewN ?_ _ | refine blk_drew ?_ | refine blk_alloc ?_ _)); refine blk_far ?_ NB236_235.out _; (with_reducible repeat (first | refine blk_drewN ?_ _ | refine blk_drew ?_ | refine blk_alloc ?_ _)); refine blk_far ?_ NB236_235.out _; (with_reducible repeat (first | refine blk_drewN ?_ _ | refine blk_drew ?_ | refine blk_alloc ?_ _)); exact BK236.out) Try.underlying35 rfl (by kernel_rfl)) rfl ?_
        exact ⟨_, _, by first | rfl | (simp [errW_none, errW_some] <;> rfl) | (simp [*, errW_none, errW_some] <;> rfl), by (with_reducible repeat (first | apply Kd.Q_alloc | apply Kd.Q_drewN | apply Kd.Q_drew)); exact Kd.Q_mono (Far.qfar6_ (fun _ hk => hk.2) (Far.qfar2_ (fun _ hk => hk.1.2) (Kd.Q_types (Kd.Q_types HO_236005.out BK235.out (by decide)) BK236.out (by decide)))) (fun _ hk => trivial), by (with_reducible repeat (first | apply Kd.R_alloc | apply Kd.R_drewN | apply Kd.R_drew)); exact Kd.R_mono (Far.rfar6_ (fun _ hk => hk.2) (Far.rfar2_ (fun _ hk => hk.1.2) (Kd.R_types (Kd.R_types HO_5.out BK235.out (by decide)) BK236.out (by decide)))) (fun _ hk => trivial), belowNow⟩
       replace c44 := Bool.eq_false_iff.mpr c44; subst c44
       have H1 : (impl_Play.l0 kj33 ([] : List Int) 1 t237 t238 t239 t240 t241 x236005_33) = some (r1, r2, r3, r4, r5, r6, r7, r8) := by rw [if_neg (show ¬ (false = true) by decide)] at H; exact H
       clear H; have H := H1; clear H1
       have H' := am_ H
       clear H
       go_wp2
       go_loopg [5, 7] kj33 (fun kq v5 v7 w' => ∃ (x5_4 : List Int) (x7_4 : Int), v7 = .int .i64 x7_4 ∧ Aside0 (impl_Play.l0 kq x5_4 x7_4 t237 t238 t239 t240 t241 x236005_33 = some (r1, r2, r3, r4, r5, r6, r7, r8)) ∧ Aside0 (kq ≤ kj33) ∧ Aside0 (Kd.R (Kd.int .i64) 3 w' w.heap.size (fun _ => True) v5 x5_4) ∧ Aside0 (Kd.Q k44 44 w' w.heap.size (fun _ => True) u236005 x236005_33) ∧ Aside0 (w'.heap[gb235]? = some (.cells #[.int .i64 t237, .int .i64 t238, .int .i64 t239, .int .i64 t240, .int .i64 t241, u236005] 35 (0, 0))) ∧ Aside0 (w'.heap[gb236]? = some (.cells #[.int .i64 0, .int .i64 0, .int .i64 0, .int .i64 0, .int .i64 0, (.slice none 0 0)] 35 (0, 0))) ∧ Aside0 (Below w.heap.size w w'))
       case atStart => exact ⟨(([] : List Int)), (1), (by first | rfl | (simp; done) | (simp [*]; done)), H', ⟨Nat.le_refl _⟩, ⟨by first | exact Kd.R_nil _ _ _ _ _ | exact Kd.N_nil _ _ _ _ _ | exact Kd.V_nil _ _ _ _ _ | exact Kd.Q_nil _ _ _ _ _ | exact Kd.S_nil _ _ _ _ _⟩, ⟨by (with_reducible repeat (first | apply Kd.Q_alloc | apply Kd.Q_drewN | apply Kd.Q_drew)); exact HO_236005.out⟩, ⟨pB_ BK235.out⟩, ⟨pB_ BK236.out⟩, ⟨belowNow⟩⟩
       case round =>
        clear H'
        (try clear c1); (try clear c2); (try clear p2); (try clear q2); (try clear hx2); (try clear qi2); (try clear c3); (try clear c4); (try clear q4); (try clear c5); (try clear c6); (try clear p6); (try clear c12); (try clear c13); (try clear c13b0); (try clear c13b1); (try clear c14); (try clear c18); (try clear c20); (try clear c22); (try clear p24); (try clear q24); (try clear hx24); (try clear qi24); (try clear c25); (try clear p25); (try clear q25); (try clear hx25); (try clear qi25); (try clear c26); (try clear c30); (try clear c30b0); (try clear c30b1); (try clear c31); (try clear c31b0); (try clear c31b1); (try clear c35); (try clear c36); (try clear c36b0); (try clear c36b1); (try clear c38); (try clear c38b0); (try clear c38b1); (try clear c41); (try clear c43); (try clear q43); (try clear c44); (try clear c45); (try clear c45b0); (try clear c45b1); (try clear c46); (try clear hcz15_0 hcz15_1 hcz15_2 hcz15_3 hcz15_4 hcz15_5); (try clear hcz17_0 hcz17_1 hcz17_2 hcz17_3 hcz17_4 hcz17_5); (try clear hcz19_0 hcz19_1 hcz19_2 hcz19_3 hcz19_4 hcz19_5); (try clear hcz21_0 hcz21_1 hcz21_2 hcz21_3 hcz21_4 hcz21_5); (try clear hcz23_0 hcz23_1 hcz23_2 hcz23_3 hcz23_4 hcz23_5); (try clear hcz27_0 hcz27_1 hcz27_2 hcz27_3 hcz27_4 hcz27_5); (try clear hcz28_0 hcz28_1 hcz28_2 hcz28_3 hcz28_4 hcz28_5); (try clear hcz42_0 hcz42_1 hcz42_2 hcz42_3 hcz42_4 hcz42_5); (try clear hcz47_0 hcz47_1 hcz47_2 hcz47_3 hcz47_4 hcz47_5); (try clear hcz49_0 hcz49_1 hcz49_2 hcz49_3 hcz49_4 hcz49_5); (try clear hcz7_0 hcz7_1 hcz7_2 hcz7_3 hcz7_4 hcz7_5); (try clear hcz9_0 hcz9_1 hcz9_2 hcz9_3 hcz9_4 hcz9_5); (try clear hfz15_0 hfz15_1 hfz15_2 hfz15_3 hfz15_4 hfz15_5); (try clear hfz17_0 hfz17_1 hfz17_2 hfz17_3 hfz17_4 hfz17_5); (try clear hfz19_0 hfz19_1 hfz19_2 hfz19_3 hfz19_4 hfz19_5); (try clear hfz21_0 hfz21_1 hfz21_2 hfz21_3 hfz21_4 hfz21_5); (try clear hfz23_0 hfz23_1 hfz23_2 hfz23_3 hfz23_4 hfz23_5); (try clear hfz27_0 hfz27_1 hfz27_2 hfz27_3 hfz27_4 hfz27_5); (try clear hfz28_0 hfz28_1 hfz28_2 hfz28_3 hfz28_4 hfz28_5); (try clear hfz42_0 hfz42_1 hfz42_2 hfz42_3 hfz42_4 hfz42_5); (try clear hfz47_0 hfz47_1 hfz47_2 hfz47_3 hfz47_4 hfz47_5); (try clear hfz49_0 hfz49_1 hfz49_2 hfz49_3 hfz49_4 hfz49_5); (try clear hfz7_0 hfz7_1 hfz7_2 hfz7_3 hfz7_4 hfz7_5); (try clear hfz9_0 hfz9_1 hfz9_2 hfz9_3 hfz9_4 hfz9_5); (try clear hx246_0); (try clear hx246_1); (try clear hx246_10); (try clear hx246_11); (try clear hx246_12); (try clear hx246_13); (try clear hx246_14); (try clear hx246_15); (try clear hx246_16); (try clear hx246_17); (try clear hx246_2); (try clear hx246_3); (try clear hx246_4); (try clear hx246_5); (try clear hx246_6); (try clear hx246_7); (try clear hx246_8); (try clear hx246_9); (try clear hx247_0); (try clear hx247_1); (try clear hx247_10); (try clear hx247_11); (try clear hx247_12); (try clear hx247_13); (try clear hx247_14); (try clear hx247_15); (try clear hx247_16); (try clear hx247_17); (try clear hx247_2); (try clear hx247_3); (try clear hx247_4); (try clear hx247_5); (try clear hx247_6); (try clear hx247_7); (try clear hx247_8); (try clear hx247_9); (try clear hx257_0); (try clear p2); (try clear p24); (try clear p246); (try clear p247); (try clear p257); (try clear q2); (try clear q24); (try clear q246); (try clear q247); (try clear q257); (try clear q4); (try clear q43); obtain ⟨x5_4, x7_4, rfl, HA, HK4, HO_5, HO_236005, BK235, BK236, HB⟩ := hrel
        cases gk with
        | zero => exact absurd HA.out (by simp [impl_Play.l0])
        | succ k4 =>
         have H := HA.out; clear HA; simp only [impl_Play.l0] at H
         by_cases c51 : x7_4 ≤ 30
         case pos =>
          rw [if_pos c51] at H; have c51b0 : decide (x7_4 ≤ 30) = true := decide_eq_true c51; clear c51
          by_cases c52 : x5_4.length < 17592186044416
          case neg =>
           rw [if_neg c52] at H
           exact absurd H (by simp)
          rw [if_pos c52] at H; have LMc52 := am_ c52; clear c52; obtain ⟨y258, hy258⟩ : ∃ y_ : List Int, y_ = (x5_4 ++ [wrap64 (Int.tdiv (wrap64 (t241 * (wrap64 (30 - x7_4)))) 30)]) := ⟨_, rfl⟩
          replace H : (impl_Play.l0 k4 y258 (wrap64 (x7_4 + 1)) t237 t238 t239 t240 t241 x236005_33) = some (r1, r2, r3, r4, r5, r6, r7, r8) := by first | (rw [hy258]; with_reducible exact H) | (have H2_ := (Option.bind_some _ _).symm.trans H; rw [hy258]; with_reducible exact H2_) | (have H2_ := (Option.bind_some _ _).symm.trans H; with_reducible exact H2_) | with_reducible exact H | (rw [hy258]; exact H) | exact H
          have Ny258 := am_ hy258; clear hy258
          have H' := am_ H
          clear H; have ⟨hnb53, hnc53⟩ := nn11_ NB235_236.out; have hcz54_0 := cz11_ BK235.out 0 rfl; have hcz54_1 := cz11_ BK235.out 1 rfl; have hcz54_2 := cz11_ BK235.out 2 rfl; have hcz54_3 := cz11_ BK235.out 3 rfl; have hcz54_4 := cz11_ BK235.out 4 rfl; have hcz54_5 := cz11_ BK235.out 5 rfl; have hfz54_0 := blk_frozen BK235.out 0; have hfz54_1 := blk_frozen BK235.out 1; have hfz54_2 := blk_frozen BK235.out 2; have hfz54_3 := blk_frozen BK235.out 3; have hfz54_4 := blk_frozen BK235.out 4; have hfz54_5 := blk_frozen BK235.out 5
          go_wp2_with (first | ((with_reducible refine gate_builtin (b := .append) (xs := #[.tmp 60, .tmp 67]) rfl ?_); at_builtin; refine Kd.R_append (Kd.int .i64) (w0 := w) w.heap.size rfl (.tmp 60) (.tmp 67) 48 3 (.int .i64 0) 8 rfl Try.underlying48 info3 rfl (by decide) (by omega) u5 x5_4 (wrap64 (Int.tdiv (wrap64 (t241 * (wrap64 (30 - x7_4)))) 30)) [.int .i64 (wrap64 (Int.tdiv (wrap64 (t241 * (wrap64 (30 - x7_4)))) 30))] (fun _ => True) (fun _ => False) rfl rfl ?aP (fun _ hk => hk.elim) ?aF ?aO ?aB ?aS ?aL ?_; (case aP => exact rfl); (case aB => exact belowNow); (case aF => exact (fun _ _ => trivial)); (case aO => exact (pR_ HO_5.out)); (case aS => exact (below_size belowNow)); (case aL => have := LMc52.out; omega); intro v259 w55 ho hb hg hat; rw [← Ny258.out] at ho; have n0_ := am_ (Kd.Q_over' (by (with_reducible repeat (first | apply Kd.Q_alloc | apply Kd.Q_drewN | apply Kd.Q_drew)); exact HO_236005.out) (Kd.R_typed (pR_ HO_5.out)) (by decide) hg); have n1_ := am_ (blk_grown (g := gb235) (o := .cells #[.int .i64 t237, .int .i64 t238, .int .i64 t239, .int .i64 t240, .int .i64 t241, u236005] 35 (0, 0)) blkNow hg (Kd.R_ne HO_5.out BK235.out (by decide))); have n2_ := am_ (blk_grown (g := gb236) (o := .cells #[.int .i64 0, .int .i64 0, .int .i64 0, .int .i64 0, .int .i64 0, .slice none 0 0] 35 (0, 0)) blkNow hg (Kd.R_ne HO_5.out BK236.out (by decide))); have n3_ := am_ (hb); have n4_ := am_ (ho); clear HO_236005; clear BK235; clear BK236; clear HB; clear HO_5; have HO_236005 := n0_; have BK235 := n1_; have BK236 := n2_; have HB := n3_; have HO260 := n4_; clear n0_ n1_ n2_ n3_ n4_; clear ho hb hg hat))
          go_roundg k4
          case measure => have := HJ2.out; have := HJ28.out; have := HJ33.out; have := HK4.out; omega
          case rel => exact ⟨(y258), (wrap64 (x7_4 + 1)), (by first | rfl | (simp; done) | (simp [*]; done)), H', ⟨by have := HJ2.out; have := HJ28.out; have := HJ33.out; have := HK4.out; omega⟩, ⟨pR_ HO260.out⟩, ⟨by (with_reducible repeat (first | apply Kd.Q_alloc | apply Kd.Q_drewN | apply Kd.Q_drew)); exact HO_236005.out⟩, ⟨pB_ BK235.out⟩, ⟨pB_ BK236.out⟩, ⟨belowNow⟩⟩
         rw [if_neg c51] at H; have c51b0 : decide (x7_4 ≤ 30) = false := decide_eq_false c51; clear c51
         by_cases c56 : 29 < (x5_4.length : Int)
         case neg =>
          rw [if_neg c56] at H
          exact absurd H (by simp)

         rw [if_pos c56] at H; have c56b0 : decide (29 < (x5_4.length : Int)) = true := decide_eq_true c56
         have c56b1 : decide (29 < x5_4.length) = true := decide_eq_true (by omega)
         clear c56; simp only [Option.some.injEq, Prod.mk.injEq] at H; obtain ⟨rfl, rfl, rfl, rfl, rfl, rfl, rfl, rfl⟩ := H; have ⟨hnb57, hnc57⟩ := nn11_ NB235_236.out; have hcz58_0 := cz11_ BK235.out 0 rfl; have hcz58_1 := cz11_ BK235.out 1 rfl; have hcz58_2 := cz11_ BK235.out 2 rfl; have hcz58_3 := cz11_ BK235.out 3 rfl; have hcz58_4 := cz11_ BK235.out 4 rfl; have hcz58_5 := cz11_ BK235.out 5 rfl; have hfz58_0 := blk_frozen BK235.out 0; have hfz58_1 := blk_frozen BK235.out 1; have hfz58_2 := blk_frozen BK235.out 2; have hfz58_3 := blk_frozen BK235.out 3; have hfz58_4 := blk_frozen BK235.out 4; have hfz58_5 := blk_frozen BK235.out 5; obtain ⟨Ao59, co59, eo59⟩ := Kd.R_slice HO_5.out; subst eo59
         have p261 : 0 ≤ (29 : Int) := (by omega)
         have q261 : 29 < (x5_4.length : Int) := of_decide_eq_true (by first | (with_reducible assumption) | assumption)
         obtain ⟨ad261, e261, hx261_0⟩ := Kd.at_int (Kd.R_reads' HO_5.out).2.2 29 p261 q261
         cases e261
         (try simp only [show (29 : Int).toNat = 29 from rfl, Nat.reduceMul, Nat.reduceEqDiff, Go.Addr.add, ↓reduceIte] at hx261_0)
         have qi261 : (29 < x5_4.length) = True := eq_true (by omega)
         (try rw [show ((29 : Int)).toNat = 29 from rfl] at hx261_0)
         have hn261_0 : ad261.block ≠ gb235 := Kd.own_blk (Kd.R_ne HO_5.out BK235.out (by decide))
         have hn261_1 : ad261.block ≠ gb235 := Kd.own_blk (Kd.R_ne HO_5.out BK235.out (by decide))
         replace hx261_0 := (cell_far (p := ⟨gb235, 3, none⟩) (by first | (rw [add_block]; exact hn261_0) | (show (Addr.add _ _).block ≠ _; rw [add_block]; exact hn261_0) | exact hn261_0) (.int .i64 (wrap64 (t240 + 1)))).trans hx261_0
         replace hx261_0 := (cell_far (p := ⟨gb235, 0, none⟩) (by first | (rw [add_block]; exact hn261_1) | (show (Addr.add _ _).block ≠ _; rw [add_block]; exact hn261_1) | exact hn261_1) (.int .i64 (wrap64 (t237 + 1)))).trans hx261_0
         clear hn261_0 hn261_1; replace p261 := eq_true p261; replace q261 := eq_true q261; have hcz60_0 := cz11_ BK236.out 0 rfl; have hcz60_1 := cz11_ BK236.out 1 rfl; have hcz60_2 := cz11_ BK236.out 2 rfl; have hcz60_3 := cz11_ BK236.out 3 rfl; have hcz60_4 := cz11_ BK236.out 4 rfl; have hcz60_5 := cz11_ BK236.out 5 rfl; have hfz60_0 := blk_frozen BK236.out 0; have hfz60_1 := blk_frozen BK236.out 1; have hfz60_2 := blk_frozen BK236.out 2; have hfz60_3 := blk_frozen BK236.out 3; have hfz60_4 := blk_frozen BK236.out 4; have hfz60_5 := blk_frozen BK236.out 5; obtain ⟨Ao61, co61, eo61, _⟩ := Kd.Q_slice HO_236005.out; subst eo61
         go_wp2
         refine bodyPost_ret (results_ctt rfl _ _ gb236 35 #[.int .i64 (wrap64 (t237 + 1)), .int .i64 t238, .int .i64 t239, .int .i64 (wrap64 (t240 + 1)), .int .i64 (rd x5_4 29), .slice Ao61 x236005_33.length co61] (0, 0) _ rfl (by (with_reducible repeat (first | refine blk_drewN ?_ _ | refine blk_drew ?_ | refine blk_alloc ?_ _)); refine Far.put6_ #[.int .i64 0, .int .i64 0, .int .i64 0, .int .i64 0, .int .i64 0, .slice none 0 0] rfl ?_; (with_reducible repeat (first | refine blk_drewN ?_ _ | refine blk_drew ?_ | refine blk_alloc ?_ _)); refine blk_far ?_ NB236_235.out _; (with_reducible repeat (first | refine blk_drewN ?_ _ | refine blk_drew ?_ | refine blk_alloc ?_ _)); refine blk_far ?_ NB236_235.out _; (with_reducible repeat (first | refine blk_drewN ?_ _ | refine blk_drew ?_ | refine blk_alloc ?_ _)); refine blk_far ?_ NB236_235.out _; (with_reducible repeat (first | refine blk_drewN ?_ _ | refine blk_drew ?_ | refine blk_alloc ?_ _)); exact BK236.out) Try.underlying35 rfl (by kernel_rfl)) rfl ?_
         exact ⟨_, _, by first | rfl | (simp [errW_none, errW_some] <;> rfl) | (simp [*, errW_none, errW_some] <;> rfl), by (with_reducible repeat (first | apply Kd.Q_alloc | apply Kd.Q_drewN | apply Kd.Q_drew)); exact Kd.Q_mono (Far.qfar6_ (fun _ hk => hk.2) (Far.qfar3_ (fun _ hk => hk.1.2) (Kd.Q_types (Kd.Q_types HO_236005.out BK235.out (by decide)) BK236.out (by decide)))) (fun _ hk => trivial), by (with_reducible repeat (first | apply Kd.R_alloc | apply Kd.R_drewN | apply Kd.R_drew)); exact Kd.R_mono (Far.rfar6_ (fun _ hk => hk.2) (Far.rfar3_ (fun _ hk => hk.1.2) (Kd.R_types (Kd.R_types HO_5.out BK235.out (by decide)) BK236.out (by decide)))) (fun _ hk => trivial), belowNow⟩
end Go.Proofs.Ytbgdmbjipladoaa.PFnExactPlay
