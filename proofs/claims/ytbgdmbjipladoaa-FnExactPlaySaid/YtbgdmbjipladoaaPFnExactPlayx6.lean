-- laid by a program of this session (wip/lay/lay.py); Lean checks it
import Derived.Test.YtbgdmbjipladoaaVFnExactPlayShort
import Derived.Test.YtbgdmbjipladoaaPFnExactPlayx0
import Derived.Test.YtbgdmbjipladoaaPFnExactPlayx3
import Derived.Test.YtbgdmbjipladoaaPFnExactPlayx4
import Derived.Test.YtbgdmbjipladoaaPFnExactPlayx5
namespace Go.Proofs.Ytbgdmbjipladoaa.PFnExactPlay
-- squashed
open Go.RowKit Go.Proofs.YtbgdmbjipladoaaW.PrintWords Go.Proofs.YtbgdmbjipladoaaW.PrintLast Go.Proofs.YtbgdmbjipladoaaW.PrintMore Go.Proofs.Ytbgdmbjipladoaa.Short
attribute [local go_sem] max2_int min2_int max_two min_two max_three min_three max_four min_four   -- for this text's walks alone
set_option linter.unusedVariables false
set_option linter.unusedSimpArgs false

theorem cz6_ {w : World} {g : Nat} {t : TypeId} {cs : Array Value} {v : Value} (h : w.heap[g]? = some (.cells cs t (0, 0))) (i : Nat) (e : cs[i]? = some v) : w.cell? ⟨g, i, none⟩ = some v := (blk_cell h i).trans e
theorem nn6_ {a b : Nat} (h : a ≠ b) : a ≠ b ∧ b ≠ a := ⟨h, h.symm⟩
/-! ### spec_Play: function 29 -/
mutual
def spec_Play.j0 : Nat → Bool → Int → Int → Int → Int → Int → List (S44) → Option (Int × Int × Int × Int × Int × (List (S44)) × List Int × Bool)
 | 0, _, _, _, _, _, _, _ => none
 | k + 1, x22, x163000, x163001, x163002, x163003, x163004, x163005 => if x22 = true then (some (x163000, x163001, x163002, x163003, x163004, x163005, (([] : List Int)), false)) else ((some (([] : List Int) : List Int)).bind fun y176 => (if (x163005.length : Int) > 0 then (if 0 < (x163005.length : Int) then (spec_Play.j1 k y176 false (((rd_T44 x163005 0).f1) == x163000) x163000 x163001 x163002 x163003 x163004 x163005) else (none)) else (spec_Play.j1 k y176 false false x163000 x163001 x163002 x163003 x163004 x163005)))
def spec_Play.j1 : Nat → List Int → Bool → Bool → Int → Int → Int → Int → Int → List (S44) → Option (Int × Int × Int × Int × Int × (List (S44)) × List Int × Bool)
 | 0, _, _, _, _, _, _, _, _, _ => none
 | k + 1, x5, x6, x39, x163000, x163001, x163002, x163003, x163004, x163005 => if x39 = true then (if 0 < (x163005.length : Int) then ((spec_OfFrame.f k x163004 ((rd_T44 x163005 0).f2.f0) ((rd_T44 x163005 0).f2.f1) ((rd_T44 x163005 0).f2.f2) ((rd_T44 x163005 0).f2.f3) ((rd_T44 x163005 0).f2.f4) ((rd_T44 x163005 0).f2.f5) ((rd_T44 x163005 0).f2.f6) ((rd_T44 x163005 0).f2.f7) ((rd_T44 x163005 0).f2.f8) ((rd_T44 x163005 0).f2.f9) ((rd_T44 x163005 0).f2.f10) ((rd_T44 x163005 0).f2.f11) ((rd_T44 x163005 0).f2.f12) ((rd_T44 x163005 0).f2.f13) ((rd_T44 x163005 0).f2.f14) ((rd_T44 x163005 0).f2.f15)).bind fun bt181 => (if 1 ≤ (x163005.length : Int) then (spec_Play.j2 k bt181.1 bt181.2.2.2 x163000 x163001 x163002 x163003 x163004 (x163005.drop (1 : Int).toNat)) else (none))) else (none)) else (spec_Play.j2 k x5 x6 x163000 x163001 x163002 x163003 x163004 x163005)
def spec_Play.j2 : Nat → List Int → Bool → Int → Int → Int → Int → Int → List (S44) → Option (Int × Int × Int × Int × Int × (List (S44)) × List Int × Bool)
 | 0, _, _, _, _, _, _, _, _ => none
 | k + 1, x5, x6, x163000, x163001, x163002, x163003, x163004, x163005 => if x6 = true then (if 0 ≤ (wrap64 ((x5.length : Int) - 1)) then (if (wrap64 ((x5.length : Int) - 1)) < (x5.length : Int) then (some (wrap64 (x163000 + 1), x163001, x163002, x163003, rd x5 (wrap64 ((x5.length : Int) - 1)), x163005, x5, true)) else (none)) else (none)) else (spec_Play.l0 k (([] : List Int)) 1 x163000 x163001 x163002 x163003 x163004 x163005)
def spec_Play.l0 : Nat → List Int → Int → Int → Int → Int → Int → Int → List (S44) → Option (Int × Int × Int × Int × Int × (List (S44)) × List Int × Bool)
 | 0, _, _, _, _, _, _, _, _ => none
 | k + 1, x5, x7, x163000, x163001, x163002, x163003, x163004, x163005 => if x7 ≤ 30 then (if x5.length < 17592186044416 then (spec_Play.l0 k (x5 ++ [wrap64 (Int.tdiv (wrap64 (x163004 * (wrap64 (30 - x7)))) 30)]) (wrap64 (x7 + 1)) x163000 x163001 x163002 x163003 x163004 x163005) else (none)) else (if 0 ≤ (wrap64 ((x5.length : Int) - 1)) then (if (wrap64 ((x5.length : Int) - 1)) < (x5.length : Int) then (some (wrap64 (x163000 + 1), x163001, x163002, wrap64 (x163003 + 1), rd x5 (wrap64 ((x5.length : Int) - 1)), x163005, x5, true)) else (none)) else (none))
end
def spec_Play.f (k : Nat) (a0_0 : Int) (a0_1 : Int) (a0_2 : Int) (a0_3 : Int) (a0_4 : Int) (l0_5 : List (S44)) : Option (Int × Int × Int × Int × Int × (List (S44)) × List Int × Bool) := (spec_l12Copy.f a0_0 a0_1 a0_2 a0_3 a0_4 l0_5).bind fun bt164 => ((spec_PlayerOk.f k bt164.1 bt164.2.1 bt164.2.2.1 bt164.2.2.2.1 bt164.2.2.2.2.1 bt164.2.2.2.2.2).bind fun t172 => (if t172 = true then (if bt164.1 = 1000000 then (spec_Play.j0 k true bt164.1 bt164.2.1 bt164.2.2.1 bt164.2.2.2.1 bt164.2.2.2.2.1 bt164.2.2.2.2.2) else (spec_Play.j0 k (bt164.2.2.2.1 == 1000000000) bt164.1 bt164.2.1 bt164.2.2.1 bt164.2.2.2.1 bt164.2.2.2.2.1 bt164.2.2.2.2.2)) else (spec_Play.j0 k true bt164.1 bt164.2.1 bt164.2.2.1 bt164.2.2.2.1 bt164.2.2.2.2.1 bt164.2.2.2.2.2)))
theorem spec_Play.mono_l : ∀ k, (∀ y0 y1 y2 y3 y4 y5 y6, LeO (spec_Play.j0 k y0 y1 y2 y3 y4 y5 y6) (spec_Play.j0 (k + 1) y0 y1 y2 y3 y4 y5 y6)) ∧ (∀ y0 y1 y2 y3 y4 y5 y6 y7 y8, LeO (spec_Play.j1 k y0 y1 y2 y3 y4 y5 y6 y7 y8) (spec_Play.j1 (k + 1) y0 y1 y2 y3 y4 y5 y6 y7 y8)) ∧ (∀ y0 y1 y2 y3 y4 y5 y6 y7, LeO (spec_Play.j2 k y0 y1 y2 y3 y4 y5 y6 y7) (spec_Play.j2 (k + 1) y0 y1 y2 y3 y4 y5 y6 y7)) ∧ (∀ y0 y1 y2 y3 y4 y5 y6 y7, LeO (spec_Play.l0 k y0 y1 y2 y3 y4 y5 y6 y7) (spec_Play.l0 (k + 1) y0 y1 y2 y3 y4 y5 y6 y7))
 | 0 => ⟨fun _ _ _ _ _ _ _ r h => by simp [spec_Play.j0] at h, fun _ _ _ _ _ _ _ _ _ r h => by simp [spec_Play.j1] at h, fun _ _ _ _ _ _ _ _ r h => by simp [spec_Play.j2] at h, fun _ _ _ _ _ _ _ _ r h => by simp [spec_Play.l0] at h⟩
 | k + 1 => by
  obtain ⟨ih0, ih1, ih2, ih3⟩ := spec_Play.mono_l k
  refine ⟨?_, ?_, ?_, ?_⟩
  ·intro y0 y1 y2 y3 y4 y5 y6
   unfold spec_Play.j0
   repeat' first
   | (with_reducible exact ih0 _ _ _ _ _ _ _)
   | (with_reducible exact ih1 _ _ _ _ _ _ _ _ _)
   | (with_reducible exact ih2 _ _ _ _ _ _ _ _)
   | (with_reducible exact ih3 _ _ _ _ _ _ _ _)
   | (with_reducible exact spec_OfFrame.mono _ _ _ _ _ _ _ _ _ _ _ _ _ _ _ _ _ _)
   | (with_reducible exact spec_PlayerOk.mono _ _ _ _ _ _ _)
   | (with_reducible exact LeO.refl _)
   | (with_reducible exact LeO.none _)
   | (with_reducible refine LeO.ite ?_ ?_)
   | (with_reducible refine LeO.bind ?_ (fun _ => ?_))
   | exact ih0 _ _ _ _ _ _ _
   | exact ih1 _ _ _ _ _ _ _ _ _
   | exact ih2 _ _ _ _ _ _ _ _
   | exact ih3 _ _ _ _ _ _ _ _
   | exact spec_OfFrame.mono _ _ _ _ _ _ _ _ _ _ _ _ _ _ _ _ _ _
   | exact spec_PlayerOk.mono _ _ _ _ _ _ _
   | exact LeO.none _
   | refine LeO.ite ?_ ?_
   | refine LeO.bind ?_ (fun _ => ?_)
  ·intro y0 y1 y2 y3 y4 y5 y6 y7 y8
   unfold spec_Play.j1
   repeat' first
   | (with_reducible exact ih0 _ _ _ _ _ _ _)
   | (with_reducible exact ih1 _ _ _ _ _ _ _ _ _)
   | (with_reducible exact ih2 _ _ _ _ _ _ _ _)
   | (with_reducible exact ih3 _ _ _ _ _ _ _ _)
   | (with_reducible exact spec_OfFrame.mono _ _ _ _ _ _ _ _ _ _ _ _ _ _ _ _ _ _)
   | (with_reducible exact spec_PlayerOk.mono _ _ _ _ _ _ _)
   | (with_reducible exact LeO.refl _)
   | (with_reducible exact LeO.none _)
   | (with_reducible refine LeO.ite ?_ ?_)
   | (with_reducible refine LeO.bind ?_ (fun _ => ?_))
   | exact ih0 _ _ _ _ _ _ _
   | exact ih1 _ _ _ _ _ _ _ _ _
   | exact ih2 _ _ _ _ _ _ _ _
   | exact ih3 _ _ _ _ _ _ _ _
   | exact spec_OfFrame.mono _ _ _ _ _ _ _ _ _ _ _ _ _ _ _ _ _ _
   | exact spec_PlayerOk.mono _ _ _ _ _ _ _
   | exact LeO.none _
   | refine LeO.ite ?_ ?_
   | refine LeO.bind ?_ (fun _ => ?_)
  ·intro y0 y1 y2 y3 y4 y5 y6 y7
   unfold spec_Play.j2
   repeat' first
   | (with_reducible exact ih0 _ _ _ _ _ _ _)
   | (with_reducible exact ih1 _ _ _ _ _ _ _ _ _)
   | (with_reducible exact ih2 _ _ _ _ _ _ _ _)
   | (with_reducible exact ih3 _ _ _ _ _ _ _ _)
   | (with_reducible exact spec_OfFrame.mono _ _ _ _ _ _ _ _ _ _ _ _ _ _ _ _ _ _)
   | (with_reducible exact spec_PlayerOk.mono _ _ _ _ _ _ _)
   | (with_reducible exact LeO.refl _)
   | (with_reducible exact LeO.none _)
   | (with_reducible refine LeO.ite ?_ ?_)
   | (with_reducible refine LeO.bind ?_ (fun _ => ?_))
   | exact ih0 _ _ _ _ _ _ _
   | exact ih1 _ _ _ _ _ _ _ _ _
   | exact ih2 _ _ _ _ _ _ _ _
   | exact ih3 _ _ _ _ _ _ _ _
   | exact spec_OfFrame.mono _ _ _ _ _ _ _ _ _ _ _ _ _ _ _ _ _ _
   | exact spec_PlayerOk.mono _ _ _ _ _ _ _
   | exact LeO.none _
   | refine LeO.ite ?_ ?_
   | refine LeO.bind ?_ (fun _ => ?_)
  ·intro y0 y1 y2 y3 y4 y5 y6 y7
   unfold spec_Play.l0
   repeat' first
   | (with_reducible exact ih0 _ _ _ _ _ _ _)
   | (with_reducible exact ih1 _ _ _ _ _ _ _ _ _)
   | (with_reducible exact ih2 _ _ _ _ _ _ _ _)
   | (with_reducible exact ih3 _ _ _ _ _ _ _ _)
   | (with_reducible exact spec_OfFrame.mono _ _ _ _ _ _ _ _ _ _ _ _ _ _ _ _ _ _)
   | (with_reducible exact spec_PlayerOk.mono _ _ _ _ _ _ _)
   | (with_reducible exact LeO.refl _)
   | (with_reducible exact LeO.none _)
   | (with_reducible refine LeO.ite ?_ ?_)
   | (with_reducible refine LeO.bind ?_ (fun _ => ?_))
   | exact ih0 _ _ _ _ _ _ _
   | exact ih1 _ _ _ _ _ _ _ _ _
   | exact ih2 _ _ _ _ _ _ _ _
   | exact ih3 _ _ _ _ _ _ _ _
   | exact spec_OfFrame.mono _ _ _ _ _ _ _ _ _ _ _ _ _ _ _ _ _ _
   | exact spec_PlayerOk.mono _ _ _ _ _ _ _
   | exact LeO.none _
   | refine LeO.ite ?_ ?_
   | refine LeO.bind ?_ (fun _ => ?_)
theorem spec_Play.mono : ∀ a0 a1 a2 a3 a4 a5 k, LeO (spec_Play.f k a0 a1 a2 a3 a4 a5) (spec_Play.f (k + 1) a0 a1 a2 a3 a4 a5) := by
 intro a0 a1 a2 a3 a4 a5 k
 obtain ⟨ih0, ih1, ih2, ih3⟩ := spec_Play.mono_l k
 unfold spec_Play.f
 repeat' first
   | (with_reducible exact ih0 _ _ _ _ _ _ _)
   | (with_reducible exact ih1 _ _ _ _ _ _ _ _ _)
   | (with_reducible exact ih2 _ _ _ _ _ _ _ _)
   | (with_reducible exact ih3 _ _ _ _ _ _ _ _)
   | (with_reducible exact spec_OfFrame.mono _ _ _ _ _ _ _ _ _ _ _ _ _ _ _ _ _ _)
   | (with_reducible exact spec_PlayerOk.mono _ _ _ _ _ _ _)
   | (with_reducible exact LeO.refl _)
   | (with_reducible exact LeO.none _)
   | (with_reducible refine LeO.ite ?_ ?_)
   | (with_reducible refine LeO.bind ?_ (fun _ => ?_))
   | exact ih0 _ _ _ _ _ _ _
   | exact ih1 _ _ _ _ _ _ _ _ _
   | exact ih2 _ _ _ _ _ _ _ _
   | exact ih3 _ _ _ _ _ _ _ _
   | exact spec_OfFrame.mono _ _ _ _ _ _ _ _ _ _ _ _ _ _ _ _ _ _
   | exact spec_PlayerOk.mono _ _ _ _ _ _ _
   | exact LeO.none _
   | refine LeO.ite ?_ ?_
   | refine LeO.bind ?_ (fun _ => ?_)
def spec_Play.T5 : Bool × List (List Nat × List Nat) := (true, [([], []), ([0], [0]), ([1], [1]), ([2], [2]), ([3], [3]), ([4], [4]), ([5, 4], [4, 5]), ([6, 4], [4, 6]), ([7, 4], [4, 7]), ([8, 4], [4, 8]), ([4], [4]), ([10, 4], [4, 10]), ([9, 11, 4], [4, 9, 11]), ([4, 12], [4, 12])])
def spec_Play.B5 : List Nat := [0, 1, 3, 7, 15, 31, 63, 127, 255, 511, 31, 1055, 4095, 8191]
theorem spec_Play.tab5 : rtab .any (opsOf Try.f29 5) = spec_Play.T5 := by kernel_rfl
theorem spec_Play.bits5 : waitsOk spec_Play.T5.2 spec_Play.B5 = true := by kernel_rfl
def spec_Play.T6 : Bool × List (List Nat × List Nat) := (true, [([], []), ([0], [0]), ([], []), ([2], [2]), ([3], [3]), ([4], [4]), ([5], [5]), ([1, 6], [1, 6]), ([7], [7]), ([8], [8]), ([8], [8]), ([8], [8]), ([9, 7, 0, 1, 2, 3, 4, 5, 6, 7, 8, 9], [9]), ([11, 12, 0, 1, 2, 3, 4, 5, 6, 7, 8, 9, 10, 11, 12], [11])])
def spec_Play.B6 : List Nat := [0, 1, 0, 4, 12, 28, 60, 127, 255, 511, 511, 511, 1023, 8191]
theorem spec_Play.tab6 : rtab .any (opsOf Try.f29 6) = spec_Play.T6 := by kernel_rfl
theorem spec_Play.bits6 : waitsOk spec_Play.T6.2 spec_Play.B6 = true := by kernel_rfl
set_option maxHeartbeats 8000000 in
set_option maxRecDepth 100000 in
theorem spec_Play.calls (k : Nat) (a0_0 : Int) (a0_1 : Int) (a0_2 : Int) (a0_3 : Int) (a0_4 : Int) (A0_5 : Option Addr) (c0_5 : Nat) (l0_5 : List (S44)) (r1 : Int) (r2 : Int) (r3 : Int) (r4 : Int) (r5 : Int) (r6 : List (S44)) (r7 : List Int) (r8 : Bool) (w : World) (hr0_5 : Kd.C k44 w A0_5 l0_5.length l0_5) (hc0_5 : l0_5.length ≤ c0_5) (h : spec_Play.f k a0_0 a0_1 a0_2 a0_3 a0_4 l0_5 = some (r1, r2, r3, r4, r5, r6, r7, r8)) :
  Calls Try.prog 29 #[.agg #[.int .i64 a0_0, .int .i64 a0_1, .int .i64 a0_2, .int .i64 a0_3, .int .i64 a0_4, .slice A0_5 l0_5.length c0_5]] w fun e w' => ∃ v5_ v6_ : Value, e = .returned (.tuple #[.agg #[.int .i64 r1, .int .i64 r2, .int .i64 r3, .int .i64 r4, .int .i64 r5, v5_], v6_, .bool r8]) ∧ Kd.Q k44 44 w' w.heap.size (fun _ => True) v5_ r6 ∧ Kd.R (Kd.int .i64) 3 w' w.heap.size (fun _ => True) v6_ r7 ∧ Below w.heap.size w w' := by
 have hu35 := Try.underlying35; have hu39 := Try.underlying39; have HR0_5 := am_ hr0_5; have HC0_5 := am_ hc0_5; clear hr0_5 hc0_5; have HB := am_ (Below.refl w.heap.size w)
 have H : ((spec_l12Copy.f a0_0 a0_1 a0_2 a0_3 a0_4 l0_5).bind fun bt164 => ((spec_PlayerOk.f k bt164.1 bt164.2.1 bt164.2.2.1 bt164.2.2.2.1 bt164.2.2.2.2.1 bt164.2.2.2.2.2).bind fun t172 => (if t172 = true then (if bt164.1 = 1000000 then (spec_Play.j0 k true bt164.1 bt164.2.1 bt164.2.2.1 bt164.2.2.2.1 bt164.2.2.2.2.1 bt164.2.2.2.2.2) else (spec_Play.j0 k (bt164.2.2.2.1 == 1000000000) bt164.1 bt164.2.1 bt164.2.2.1 bt164.2.2.2.1 bt164.2.2.2.2.1 bt164.2.2.2.2.2)) else (spec_Play.j0 k true bt164.1 bt164.2.1 bt164.2.2.1 bt164.2.2.2.1 bt164.2.2.2.2.1 bt164.2.2.2.2.2)))) = some (r1, r2, r3, r4, r5, r6, r7, r8) := h
 clear h; replace H := Option.bind_eq_some_iff.mp H; obtain ⟨⟨t164, t165, t166, t167, t168, t169⟩, A20, H⟩ := H
 replace H : ((spec_PlayerOk.f k t164 t165 t166 t167 t168 t169).bind fun t172 => (if t172 = true then (if t164 = 1000000 then (spec_Play.j0 k true t164 t165 t166 t167 t168 t169) else (spec_Play.j0 k (t167 == 1000000000) t164 t165 t166 t167 t168 t169)) else (spec_Play.j0 k true t164 t165 t166 t167 t168 t169))) = some (r1, r2, r3, r4, r5, r6, r7, r8) := H
 have A2 := am_ A20; clear A20; have HC3 := am_ H; clear H
 go_enter Try.func29, Try.ntmps29
 go_upto_region 2 with (first | ((with_reducible refine gate_dst (N := 1) rfl ?_); refine box_event ?hg (N := 1) ?hd (cs := #[.int .i64 a0_0, .int .i64 a0_1, .int .i64 a0_2, .int .i64 a0_3, .int .i64 a0_4, .slice A0_5 l0_5.length c0_5]) (t := 35) ?hr ?_; (case hd => rfl); (case hg => rfl); (case hr => first | (go_simp; done) | (go_simp; rfl)); intro gb162 hg w4 hbox hb; have n0_ := am_ (below_step belowNow hb); have n1_ := am_ (hbox); have n2_ := am_ ((by rw [hg]; exact (below_size belowNow) : w.heap.size ≤ gb162)); have n3_ := n2_; clear HB; have HB := n0_; have BK162 := n1_; have GW162 := n2_; have GE162 := n3_; clear n0_ n1_ n2_ n3_; clear hb hbox hg) | ((with_reducible refine gate_dst (N := 2) rfl ?_); refine box_event ?hg (N := 2) ?hd (cs := #[.int .i64 0, .int .i64 0, .int .i64 0, .int .i64 0, .int .i64 0, .slice none 0 0]) (t := 35) ?hr ?_; (case hd => rfl); (case hg => rfl); (case hr => first | (go_simp; done) | (go_simp; rfl)); intro gb163 hg w5 hbox hb; have n0_ := am_ (blkStep (g := gb162) hb); have n1_ := am_ (below_step belowNow hb); have n2_ := am_ (hbox); have n3_ := am_ ((by rw [hg]; exact (below_size belowNow) : w.heap.size ≤ gb163)); have n4_ := n3_; have n5_ := am_ ((by rw [hg]; exact Nat.ne_of_lt (blkLt (g := gb162)) : gb162 ≠ gb163)); have n6_ := am_ ((by rw [hg]; exact Nat.ne_of_gt (blkLt (g := gb162)) : gb163 ≠ gb162)); clear BK162; clear HB; have BK162 := n0_; have HB := n1_; have BK163 := n2_; have GW163 := n3_; have GE163 := n4_; have NB162_163 := n5_; have NB163_162 := n6_; clear n0_ n1_ n2_ n3_ n4_ n5_ n6_; clear hb hbox hg; have ⟨hnb6, hnc6⟩ := nn6_ NB162_163.out; have hcz7_0 := cz6_ BK162.out 0 rfl; have hcz7_1 := cz6_ BK162.out 1 rfl; have hcz7_2 := cz6_ BK162.out 2 rfl; have hcz7_3 := cz6_ BK162.out 3 rfl; have hcz7_4 := cz6_ BK162.out 4 rfl; have hcz7_5 := cz6_ BK162.out 5 rfl; have hfz7_0 := blk_frozen BK162.out 0; have hfz7_1 := blk_frozen BK162.out 1; have hfz7_2 := blk_frozen BK162.out 2; have hfz7_3 := blk_frozen BK162.out 3; have hfz7_4 := blk_frozen BK162.out 4; have hfz7_5 := blk_frozen BK162.out 5) | ((with_reducible refine gate_callee (f := 52) rfl ?_); refine goesL_ (some 9) rfl rfl Try.func52 (by kernel_rfl) rfl #[.agg #[.int .i64 a0_0, .int .i64 a0_1, .int .i64 a0_2, .int .i64 a0_3, .int .i64 a0_4, .slice A0_5 l0_5.length c0_5]] rfl (by (try simp only [List.map_toArray, List.map_cons, List.map_nil]); first | done | rfl | (simp only [List.length_drop, List.length_take]; rfl)) ?_; (with_reducible refine (spec_l12Copy.calls a0_0 a0_1 a0_2 a0_3 a0_4 _ _ l0_5 t164 t165 t166 t167 t168 t169 _ ?side1 ?side2 A2.out).mono ?_); (case side1 => repeat (first | exact (Kd.C_below HR0_5.out HB.out) | (with_reducible refine Kd.C_alloc ?_ _) | (with_reducible refine Kd.C_drewN ?_ _) | (with_reducible refine Kd.C_drew ?_))); (case side2 => exact HC0_5.out); rintro e w8 ⟨v170, rfl, ho0, hb⟩; refine ⟨_, rfl, ?_⟩; have HO171 := am_ (Kd.R_lower ho0 (below_size belowNow)); replace BK162 := am_ (blkStep (g := gb162) hb); replace BK163 := am_ (blkStep (g := gb163) hb); replace HB := am_ (below_step belowNow hb); (try clear hb); (try clear hb2); (try clear hk); (try clear hi); (try clear ho0); have hcz9_0 := cz6_ BK162.out 0 rfl; have hcz9_1 := cz6_ BK162.out 1 rfl; have hcz9_2 := cz6_ BK162.out 2 rfl; have hcz9_3 := cz6_ BK162.out 3 rfl; have hcz9_4 := cz6_ BK162.out 4 rfl; have hcz9_5 := cz6_ BK162.out 5 rfl; have hfz9_0 := blk_frozen BK162.out 0; have hfz9_1 := blk_frozen BK162.out 1; have hfz9_2 := blk_frozen BK162.out 2; have hfz9_3 := blk_frozen BK162.out 3; have hfz9_4 := blk_frozen BK162.out 4; have hfz9_5 := blk_frozen BK162.out 5; obtain ⟨Ao10, co10, eo10⟩ := Kd.R_slice HO171.out; subst eo10))
 (try simp only [Act.put, List.setIfInBounds_toArray, List.set_cons_zero, List.set_cons_succ])
 go_cut [22] (fun v22 wc => ∃ (kq : Nat) (x22_2 : Bool), v22 = .bool x22_2 ∧ Aside0 (spec_Play.j0 kq x22_2 t164 t165 t166 t167 t168 t169 = some (r1, r2, r3, r4, r5, r6, r7, r8)) ∧ Aside0 (kq ≤ k) ∧ Aside0 (Kd.Q k44 44 wc w.heap.size (fun _ => True) (.slice Ao10 t169.length co10) t169) ∧ Aside0 (wc.heap[gb162]? = some (.cells #[.int .i64 t164, .int .i64 t165, .int .i64 t166, .int .i64 t167, .int .i64 t168, (.slice Ao10 t169.length co10)] 35 (0, 0))) ∧ Aside0 (wc.heap[gb163]? = some (.cells #[.int .i64 0, .int .i64 0, .int .i64 0, .int .i64 0, .int .i64 0, (.slice none 0 0)] 35 (0, 0))) ∧ Aside0 (Below w.heap.size w wc))
 case first =>
  have H := HC3.out; clear HC3; replace H := Option.bind_eq_some_iff.mp H; obtain ⟨t172, A110, H⟩ := H
  replace H : (if t172 = true then (if t164 = 1000000 then (spec_Play.j0 k true t164 t165 t166 t167 t168 t169) else (spec_Play.j0 k (t167 == 1000000000) t164 t165 t166 t167 t168 t169)) else (spec_Play.j0 k true t164 t165 t166 t167 t168 t169)) = some (r1, r2, r3, r4, r5, r6, r7, r8) := H
  have A11 := am_ A110; clear A110
  by_cases c12 : t172 = true
  case neg =>
   replace c12 := Bool.eq_false_iff.mpr c12; subst c12
   have H1 : (spec_Play.j0 k true t164 t165 t166 t167 t168 t169) = some (r1, r2, r3, r4, r5, r6, r7, r8) := by rw [if_neg (show ¬ (false = true) by decide)] at H; exact H
   clear H; have H := H1; clear H1
   have H' := am_ H
   clear H; have ⟨hnb22, hnc22⟩ := nn6_ NB162_163.out; have hcz23_0 := cz6_ BK162.out 0 rfl; have hcz23_1 := cz6_ BK162.out 1 rfl; have hcz23_2 := cz6_ BK162.out 2 rfl; have hcz23_3 := cz6_ BK162.out 3 rfl; have hcz23_4 := cz6_ BK162.out 4 rfl; have hcz23_5 := cz6_ BK162.out 5 rfl; have hfz23_0 := blk_frozen BK162.out 0; have hfz23_1 := blk_frozen BK162.out 1; have hfz23_2 := blk_frozen BK162.out 2; have hfz23_3 := blk_frozen BK162.out 3; have hfz23_4 := blk_frozen BK162.out 4; have hfz23_5 := blk_frozen BK162.out 5
   go_wp2_with (first | ((with_reducible refine gate_callee (f := 18) rfl ?_); refine goesL_ (some 11) rfl rfl Try.func18 (by kernel_rfl) rfl #[.agg #[.int .i64 t164, .int .i64 t165, .int .i64 t166, .int .i64 t167, .int .i64 t168, .slice Ao10 t169.length co10]] rfl (by (try simp only [List.map_toArray, List.map_cons, List.map_nil]); first | done | rfl | (simp only [List.length_drop, List.length_take]; rfl)) ?_; (with_reducible refine (spec_PlayerOk.calls k t164 t165 t166 t167 t168 _ _ t169 false _ ?side1 ?side2 A11.out).mono ?_); (case side1 => refine (Kd.R_reads' (e := 44) (base := w.heap.size) (ok := fun k_ => True) (n := t169.length) (c := co10) ?_).2.2; exact (by (with_reducible repeat (first | apply Kd.R_alloc | apply Kd.R_drewN | apply Kd.R_drew)); exact (Kd.R_mono (Far.rfar6_ (fun _ hk => hk.2) (Kd.R_types HO171.out BK162.out (by decide))) (fun _ h_ => h_.1)))); (case side2 => exact (Kd.R_reads' HO171.out).2.1); rintro e w24 ⟨rfl, hb⟩; refine ⟨_, rfl, ?_⟩; replace HO171 := am_ (Kd.R_below (by (with_reducible repeat (first | apply Kd.R_alloc | apply Kd.R_drewN | apply Kd.R_drew)); exact (Kd.R_mono (Far.rfar6_ (fun _ hk => hk.2) (Kd.R_types HO171.out BK162.out (by decide))) (fun _ h_ => h_.1))) hb); replace BK162 := am_ (blk_below (g := gb162) (o := .cells #[.int .i64 t164, .int .i64 t165, .int .i64 t166, .int .i64 t167, .int .i64 t168, .slice Ao10 t169.length co10] 35 (0, 0)) (by (with_reducible repeat (first | refine blk_drewN ?_ _ | refine blk_drew ?_ | refine blk_alloc ?_ _)); refine Far.put6_ #[.int .i64 a0_0, .int .i64 a0_1, .int .i64 a0_2, .int .i64 a0_3, .int .i64 a0_4, .slice A0_5 l0_5.length c0_5] rfl ?_; (with_reducible repeat (first | refine blk_drewN ?_ _ | refine blk_drew ?_ | refine blk_alloc ?_ _)); exact BK162.out) hb); replace BK163 := am_ (blk_below (g := gb163) (o := .cells #[.int .i64 0, .int .i64 0, .int .i64 0, .int .i64 0, .int .i64 0, .slice none 0 0] 35 (0, 0)) (blkFars) hb); replace HB := am_ (below_step belowNow hb); (try clear hb); (try clear hb2); (try clear hk); (try clear hi)))
   go_meet
   case rel => exact ⟨_, (true), (by first | rfl | (simp; done) | (simp [*]; done)), H', ⟨by first | omega | exact Nat.le_refl _⟩, ⟨Kd.Q_of_R (pR_ HO171.out)⟩, ⟨pB_ BK162.out⟩, ⟨pB_ BK163.out⟩, ⟨belowNow⟩⟩
  subst c12
  have H1 : (if t164 = 1000000 then (spec_Play.j0 k true t164 t165 t166 t167 t168 t169) else (spec_Play.j0 k (t167 == 1000000000) t164 t165 t166 t167 t168 t169)) = some (r1, r2, r3, r4, r5, r6, r7, r8) := by rw [if_pos rfl] at H; exact H
  clear H; have H := H1; clear H1
  by_cases c13 : t164 = 1000000
  case pos =>
   rw [if_pos c13] at H; have c13b0 : (t164 == 1000000) = true := beq_iff_eq.mpr c13; have c13b1 : (t164 != 1000000) = false := bne_eq_false_iff_eq.mpr c13; clear c13
   (first | rw [c13b0] | (simp only [i64_w, i32_w]; rw [c13b0]) | (rw [c13b2]; try simp only [Bool.not_false, Bool.not_true]) | skip)
   have H' := am_ H
   clear H; have ⟨hnb14, hnc14⟩ := nn6_ NB162_163.out; have hcz15_0 := cz6_ BK162.out 0 rfl; have hcz15_1 := cz6_ BK162.out 1 rfl; have hcz15_2 := cz6_ BK162.out 2 rfl; have hcz15_3 := cz6_ BK162.out 3 rfl; have hcz15_4 := cz6_ BK162.out 4 rfl; have hcz15_5 := cz6_ BK162.out 5 rfl; have hfz15_0 := blk_frozen BK162.out 0; have hfz15_1 := blk_frozen BK162.out 1; have hfz15_2 := blk_frozen BK162.out 2; have hfz15_3 := blk_frozen BK162.out 3; have hfz15_4 := blk_frozen BK162.out 4; have hfz15_5 := blk_frozen BK162.out 5
   go_wp2_with (first | ((with_reducible refine gate_callee (f := 18) rfl ?_); refine goesL_ (some 11) rfl rfl Try.func18 (by kernel_rfl) rfl #[.agg #[.int .i64 t164, .int .i64 t165, .int .i64 t166, .int .i64 t167, .int .i64 t168, .slice Ao10 t169.length co10]] rfl (by (try simp only [List.map_toArray, List.map_cons, List.map_nil]); first | done | rfl | (simp only [List.length_drop, List.length_take]; rfl)) ?_; (with_reducible refine (spec_PlayerOk.calls k t164 t165 t166 t167 t168 _ _ t169 true _ ?side1 ?side2 A11.out).mono ?_); (case side1 => refine (Kd.R_reads' (e := 44) (base := w.heap.size) (ok := fun k_ => True) (n := t169.length) (c := co10) ?_).2.2; exact (by (with_reducible repeat (first | apply Kd.R_alloc | apply Kd.R_drewN | apply Kd.R_drew)); exact (Kd.R_mono (Far.rfar6_ (fun _ hk => hk.2) (Kd.R_types HO171.out BK162.out (by decide))) (fun _ h_ => h_.1)))); (case side2 => exact (Kd.R_reads' HO171.out).2.1); rintro e w16 ⟨rfl, hb⟩; refine ⟨_, rfl, ?_⟩; replace HO171 := am_ (Kd.R_below (by (with_reducible repeat (first | apply Kd.R_alloc | apply Kd.R_drewN | apply Kd.R_drew)); exact (Kd.R_mono (Far.rfar6_ (fun _ hk => hk.2) (Kd.R_types HO171.out BK162.out (by decide))) (fun _ h_ => h_.1))) hb); replace BK162 := am_ (blk_below (g := gb162) (o := .cells #[.int .i64 t164, .int .i64 t165, .int .i64 t166, .int .i64 t167, .int .i64 t168, .slice Ao10 t169.length co10] 35 (0, 0)) (by (with_reducible repeat (first | refine blk_drewN ?_ _ | refine blk_drew ?_ | refine blk_alloc ?_ _)); refine Far.put6_ #[.int .i64 a0_0, .int .i64 a0_1, .int .i64 a0_2, .int .i64 a0_3, .int .i64 a0_4, .slice A0_5 l0_5.length c0_5] rfl ?_; (with_reducible repeat (first | refine blk_drewN ?_ _ | refine blk_drew ?_ | refine blk_alloc ?_ _)); exact BK162.out) hb); replace BK163 := am_ (blk_below (g := gb163) (o := .cells #[.int .i64 0, .int .i64 0, .int .i64 0, .int .i64 0, .int .i64 0, .slice none 0 0] 35 (0, 0)) (blkFars) hb); replace HB := am_ (below_step belowNow hb); (try clear hb); (try clear hb2); (try clear hk); (try clear hi); have hcz17_0 := cz6_ BK162.out 0 rfl; have hcz17_1 := cz6_ BK162.out 1 rfl; have hcz17_2 := cz6_ BK162.out 2 rfl; have hcz17_3 := cz6_ BK162.out 3 rfl; have hcz17_4 := cz6_ BK162.out 4 rfl; have hcz17_5 := cz6_ BK162.out 5 rfl; have hfz17_0 := blk_frozen BK162.out 0; have hfz17_1 := blk_frozen BK162.out 1; have hfz17_2 := blk_frozen BK162.out 2; have hfz17_3 := blk_frozen BK162.out 3; have hfz17_4 := blk_frozen BK162.out 4; have hfz17_5 := blk_frozen BK162.out 5))
   go_meet
   case rel => exact ⟨_, (true), (by first | rfl | (simp; done) | (simp [*]; done)), H', ⟨by first | omega | exact Nat.le_refl _⟩, ⟨Kd.Q_of_R (pR_ HO171.out)⟩, ⟨pB_ BK162.out⟩, ⟨pB_ BK163.out⟩, ⟨belowNow⟩⟩
  rw [if_neg c13] at H; have c13b0 : (t164 == 1000000) = false := beq_eq_false_iff_ne.mpr c13; have c13b1 : (t164 != 1000000) = true := bne_iff_ne.mpr c13
  (first | rw [c13b0] | (simp only [i64_w, i32_w]; rw [c13b0]) | (rw [c13b2]; try simp only [Bool.not_false, Bool.not_true]) | skip)
  have H' := am_ H
  clear H; have ⟨hnb18, hnc18⟩ := nn6_ NB162_163.out; have hcz19_0 := cz6_ BK162.out 0 rfl; have hcz19_1 := cz6_ BK162.out 1 rfl; have hcz19_2 := cz6_ BK162.out 2 rfl; have hcz19_3 := cz6_ BK162.out 3 rfl; have hcz19_4 := cz6_ BK162.out 4 rfl; have hcz19_5 := cz6_ BK162.out 5 rfl; have hfz19_0 := blk_frozen BK162.out 0; have hfz19_1 := blk_frozen BK162.out 1; have hfz19_2 := blk_frozen BK162.out 2; have hfz19_3 := blk_frozen BK162.out 3; have hfz19_4 := blk_frozen BK162.out 4; have hfz19_5 := blk_frozen BK162.out 5
  go_wp2_with (first | ((with_reducible refine gate_callee (f := 18) rfl ?_); refine goesL_ (some 11) rfl rfl Try.func18 (by kernel_rfl) rfl #[.agg #[.int .i64 t164, .int .i64 t165, .int .i64 t166, .int .i64 t167, .int .i64 t168, .slice Ao10 t169.length co10]] rfl (by (try simp only [List.map_toArray, List.map_cons, List.map_nil]); first | done | rfl | (simp only [List.length_drop, List.length_take]; rfl)) ?_; (with_reducible refine (spec_PlayerOk.calls k t164 t165 t166 t167 t168 _ _ t169 true _ ?side1 ?side2 A11.out).mono ?_); (case side1 => refine (Kd.R_reads' (e := 44) (base := w.heap.size) (ok := fun k_ => True) (n := t169.length) (c := co10) ?_).2.2; exact (by (with_reducible repeat (first | apply Kd.R_alloc | apply Kd.R_drewN | apply Kd.R_drew)); exact (Kd.R_mono (Far.rfar6_ (fun _ hk => hk.2) (Kd.R_types HO171.out BK162.out (by decide))) (fun _ h_ => h_.1)))); (case side2 => exact (Kd.R_reads' HO171.out).2.1); rintro e w20 ⟨rfl, hb⟩; refine ⟨_, rfl, ?_⟩; replace HO171 := am_ (Kd.R_below (by (with_reducible repeat (first | apply Kd.R_alloc | apply Kd.R_drewN | apply Kd.R_drew)); exact (Kd.R_mono (Far.rfar6_ (fun _ hk => hk.2) (Kd.R_types HO171.out BK162.out (by decide))) (fun _ h_ => h_.1))) hb); replace BK162 := am_ (blk_below (g := gb162) (o := .cells #[.int .i64 t164, .int .i64 t165, .int .i64 t166, .int .i64 t167, .int .i64 t168, .slice Ao10 t169.length co10] 35 (0, 0)) (by (with_reducible repeat (first | refine blk_drewN ?_ _ | refine blk_drew ?_ | refine blk_alloc ?_ _)); refine Far.put6_ #[.int .i64 a0_0, .int .i64 a0_1, .int .i64 a0_2, .int .i64 a0_3, .int .i64 a0_4, .slice A0_5 l0_5.length c0_5] rfl ?_; (with_reducible repeat (first | refine blk_drewN ?_ _ | refine blk_drew ?_ | refine blk_alloc ?_ _)); exact BK162.out) hb); replace BK163 := am_ (blk_below (g := gb163) (o := .cells #[.int .i64 0, .int .i64 0, .int .i64 0, .int .i64 0, .int .i64 0, .slice none 0 0] 35 (0, 0)) (blkFars) hb); replace HB := am_ (below_step belowNow hb); (try clear hb); (try clear hb2); (try clear hk); (try clear hi); have hcz21_0 := cz6_ BK162.out 0 rfl; have hcz21_1 := cz6_ BK162.out 1 rfl; have hcz21_2 := cz6_ BK162.out 2 rfl; have hcz21_3 := cz6_ BK162.out 3 rfl; have hcz21_4 := cz6_ BK162.out 4 rfl; have hcz21_5 := cz6_ BK162.out 5 rfl; have hfz21_0 := blk_frozen BK162.out 0; have hfz21_1 := blk_frozen BK162.out 1; have hfz21_2 := blk_frozen BK162.out 2; have hfz21_3 := blk_frozen BK162.out 3; have hfz21_4 := blk_frozen BK162.out 4; have hfz21_5 := blk_frozen BK162.out 5))
  go_meet
  case rel => exact ⟨_, ((t167 == 1000000000)), (by first | rfl | (simp; done) | (simp [*]; done)), H', ⟨by first | omega | exact Nat.le_refl _⟩, ⟨Kd.Q_of_R (pR_ HO171.out)⟩, ⟨pB_ BK162.out⟩, ⟨pB_ BK163.out⟩, ⟨belowNow⟩⟩
 case rest =>
  clear HC3; (try clear c1); (try clear c2); (try clear p2); (try clear c5); (try clear c6); (try clear c12); (try clear c13); (try clear c13b0); (try clear c13b1); (try clear c14); (try clear c18); (try clear c22); (try clear hcz15_0 hcz15_1 hcz15_2 hcz15_3 hcz15_4 hcz15_5); (try clear hcz17_0 hcz17_1 hcz17_2 hcz17_3 hcz17_4 hcz17_5); (try clear hcz19_0 hcz19_1 hcz19_2 hcz19_3 hcz19_4 hcz19_5); (try clear hcz21_0 hcz21_1 hcz21_2 hcz21_3 hcz21_4 hcz21_5); (try clear hcz23_0 hcz23_1 hcz23_2 hcz23_3 hcz23_4 hcz23_5); (try clear hcz7_0 hcz7_1 hcz7_2 hcz7_3 hcz7_4 hcz7_5); (try clear hcz9_0 hcz9_1 hcz9_2 hcz9_3 hcz9_4 hcz9_5); (try clear hfz15_0 hfz15_1 hfz15_2 hfz15_3 hfz15_4 hfz15_5); (try clear hfz17_0 hfz17_1 hfz17_2 hfz17_3 hfz17_4 hfz17_5); (try clear hfz19_0 hfz19_1 hfz19_2 hfz19_3 hfz19_4 hfz19_5); (try clear hfz21_0 hfz21_1 hfz21_2 hfz21_3 hfz21_4 hfz21_5); (try clear hfz23_0 hfz23_1 hfz23_2 hfz23_3 hfz23_4 hfz23_5); (try clear hfz7_0 hfz7_1 hfz7_2 hfz7_3 hfz7_4 hfz7_5); (try clear hfz9_0 hfz9_1 hfz9_2 hfz9_3 hfz9_4 hfz9_5); obtain ⟨kq, x22_2, rfl, HA, HJ2, HO_163005, BK162, BK163, HB⟩ := hcut
  cases kq with
  | zero => exact absurd HA.out (by simp [spec_Play.j0])
  | succ kj2 =>
   have H := HA.out; clear HA; simp only [spec_Play.j0] at H
   by_cases c25 : x22_2 = true
   case pos =>
    subst c25
    have H1 : (some (t164, t165, t166, t167, t168, t169, (([] : List Int)), false)) = some (r1, r2, r3, r4, r5, r6, r7, r8) := by rw [if_pos rfl] at H; exact H
    clear H; have H := H1; clear H1; obtain ⟨y173, hy173⟩ : ∃ y_ : List Int, y_ = (([] : List Int)) := ⟨_, rfl⟩
    replace H : (some (t164, t165, t166, t167, t168, t169, y173, false)) = some (r1, r2, r3, r4, r5, r6, r7, r8) := by first | (rw [hy173]; with_reducible exact H) | (have H2_ := (Option.bind_some _ _).symm.trans H; rw [hy173]; with_reducible exact H2_) | (have H2_ := (Option.bind_some _ _).symm.trans H; with_reducible exact H2_) | with_reducible exact H | (rw [hy173]; exact H) | exact H
    have Ny173 := am_ hy173; clear hy173; simp only [Option.some.injEq, Prod.mk.injEq] at H; obtain ⟨rfl, rfl, rfl, rfl, rfl, rfl, rfl, rfl⟩ := H; have ⟨hnb26, hnc26⟩ := nn6_ NB162_163.out; have hcz27_0 := cz6_ BK162.out 0 rfl; have hcz27_1 := cz6_ BK162.out 1 rfl; have hcz27_2 := cz6_ BK162.out 2 rfl; have hcz27_3 := cz6_ BK162.out 3 rfl; have hcz27_4 := cz6_ BK162.out 4 rfl; have hcz27_5 := cz6_ BK162.out 5 rfl; have hfz27_0 := blk_frozen BK162.out 0; have hfz27_1 := blk_frozen BK162.out 1; have hfz27_2 := blk_frozen BK162.out 2; have hfz27_3 := blk_frozen BK162.out 3; have hfz27_4 := blk_frozen BK162.out 4; have hfz27_5 := blk_frozen BK162.out 5
    go_wp2_with (first | ((with_reducible refine gate_dst (N := 24) rfl ?_); refine Kd.R_lit (Kd.int .i64) _ 3 ?hg (N := 24) ?hd (xs := ([] : List Int)) (inner := []) (ok := fun _ => True) (okp := fun _ => True) ?hr ?hp (fun _ hk => hk) trivial (Below.refl _ _) (Nat.le_refl _) (by simp) ?_; (case hd => rfl); (case hg => rfl); (case hr => first | (go_simp; done) | (go_simp; rfl)); (case hp => exact (Reps.none _ _)); intro v174 w28 ho29 hb hg_ hnew_; clear hg_ hnew_; (first | rw [← Ny173.out] at ho29 | (simp only [Int.reduceToNat] at ho29; rw [← Ny173.out] at ho29)); replace HO_163005 := am_ (Kd.Q_below (by (with_reducible repeat (first | apply Kd.Q_alloc | apply Kd.Q_drewN | apply Kd.Q_drew)); exact HO_163005.out) hb); have HO175 := am_ (Kd.R_lower ho29 (below_size belowNow)); replace BK162 := am_ (blkStep (g := gb162) hb); replace BK163 := am_ (blkStep (g := gb163) hb); replace HB := am_ (below_step belowNow hb); clear hb ho29; have hcz30_0 := cz6_ BK163.out 0 rfl; have hcz30_1 := cz6_ BK163.out 1 rfl; have hcz30_2 := cz6_ BK163.out 2 rfl; have hcz30_3 := cz6_ BK163.out 3 rfl; have hcz30_4 := cz6_ BK163.out 4 rfl; have hcz30_5 := cz6_ BK163.out 5 rfl; have hfz30_0 := blk_frozen BK163.out 0; have hfz30_1 := blk_frozen BK163.out 1; have hfz30_2 := blk_frozen BK163.out 2; have hfz30_3 := blk_frozen BK163.out 3; have hfz30_4 := blk_frozen BK163.out 4; have hfz30_5 := blk_frozen BK163.out 5))
    refine bodyPost_ret (results_ctt rfl _ _ gb163 35 #[.int .i64 t164, .int .i64 t165, .int .i64 t166, .int .i64 t167, .int .i64 t168, .slice Ao10 t169.length co10] (0, 0) _ rfl (by (with_reducible repeat (first | refine blk_drewN ?_ _ | refine blk_drew ?_ | refine blk_alloc ?_ _)); refine Far.put6_ #[.int .i64 0, .int .i64 0, .int .i64 0, .int .i64 0, .int .i64 0, .slice none 0 0] rfl ?_; (with_reducible repeat (first | refine blk_drewN ?_ _ | refine blk_drew ?_ | refine blk_alloc ?_ _)); exact BK163.out) Try.underlying35 rfl (by kernel_rfl)) rfl ?_
    exact ⟨_, _, by first | rfl | (simp [errW_none, errW_some] <;> rfl) | (simp [*, errW_none, errW_some] <;> rfl), by (with_reducible repeat (first | apply Kd.Q_alloc | apply Kd.Q_drewN | apply Kd.Q_drew)); exact Kd.Q_mono (Far.qfar6_ (fun _ hk => hk.2) (Kd.Q_types HO_163005.out BK163.out (by decide))) (fun _ hk => trivial), by (with_reducible repeat (first | apply Kd.R_alloc | apply Kd.R_drewN | apply Kd.R_drew)); exact Kd.R_mono (Far.rfar6_ (fun _ hk => hk.2) (Kd.R_types HO175.out BK163.out (by decide))) (fun _ hk => trivial), belowNow⟩
   replace c25 := Bool.eq_false_iff.mpr c25; subst c25
   have H1 : ((some (([] : List Int) : List Int)).bind fun y176 => (if (t169.length : Int) > 0 then (if 0 < (t169.length : Int) then (spec_Play.j1 kj2 y176 false (((rd_T44 t169 0).f1) == t164) t164 t165 t166 t167 t168 t169) else (none)) else (spec_Play.j1 kj2 y176 false false t164 t165 t166 t167 t168 t169))) = some (r1, r2, r3, r4, r5, r6, r7, r8) := by rw [if_neg (show ¬ (false = true) by decide)] at H; exact H
   clear H; have H := H1; clear H1; obtain ⟨y176, hy176⟩ : ∃ y_ : List Int, y_ = (([] : List Int)) := ⟨_, rfl⟩
   replace H : (if (t169.length : Int) > 0 then (if 0 < (t169.length : Int) then (spec_Play.j1 kj2 y176 false (((rd_T44 t169 0).f1) == t164) t164 t165 t166 t167 t168 t169) else (none)) else (spec_Play.j1 kj2 y176 false false t164 t165 t166 t167 t168 t169)) = some (r1, r2, r3, r4, r5, r6, r7, r8) := by first | (rw [hy176]; with_reducible exact H) | (have H2_ := (Option.bind_some _ _).symm.trans H; rw [hy176]; with_reducible exact H2_) | (have H2_ := (Option.bind_some _ _).symm.trans H; with_reducible exact H2_) | with_reducible exact H | (rw [hy176]; exact H) | exact H
   have Ny176 := am_ hy176; clear hy176; have HC31 := am_ H; clear H
   go_upto_region 5 with (first | ((with_reducible refine gate_dst (N := 25) rfl ?_); refine Kd.R_lit (Kd.int .i64) _ 3 ?hg (N := 25) ?hd (xs := ([] : List Int)) (inner := []) (ok := fun _ => True) (okp := fun _ => True) ?hr ?hp (fun _ hk => hk) trivial (Below.refl _ _) (Nat.le_refl _) (by simp) ?_; (case hd => rfl); (case hg => rfl); (case hr => first | (go_simp; done) | (go_simp; rfl)); (case hp => exact (Reps.none _ _)); intro v177 w32 ho33 hb hg_ hnew_; clear hg_ hnew_; (first | rw [← Ny176.out] at ho33 | (simp only [Int.reduceToNat] at ho33; rw [← Ny176.out] at ho33)); replace HO_163005 := am_ (Kd.Q_below (by (with_reducible repeat (first | apply Kd.Q_alloc | apply Kd.Q_drewN | apply Kd.Q_drew)); exact HO_163005.out) hb); have HO178 := am_ (Kd.R_lower ho33 (below_size belowNow)); replace BK162 := am_ (blkStep (g := gb162) hb); replace BK163 := am_ (blkStep (g := gb163) hb); replace HB := am_ (below_step belowNow hb); clear hb ho33))
   (try simp only [Act.put, List.setIfInBounds_toArray, List.set_cons_zero, List.set_cons_succ])
   go_cut [39] (fun v39 wc => ∃ (kq : Nat) (x39_30 : Bool), v39 = .bool x39_30 ∧ Aside0 (spec_Play.j1 kq y176 false x39_30 t164 t165 t166 t167 t168 t169 = some (r1, r2, r3, r4, r5, r6, r7, r8)) ∧ Aside0 (kq ≤ kj2) ∧ Aside0 (Kd.R (Kd.int .i64) 3 wc w.heap.size (fun _ => True) v177 y176) ∧ Aside0 (Kd.Q k44 44 wc w.heap.size (fun _ => True) (.slice Ao10 t169.length co10) t169) ∧ Aside0 (wc.heap[gb162]? = some (.cells #[.int .i64 t164, .int .i64 t165, .int .i64 t166, .int .i64 t167, .int .i64 t168, (.slice Ao10 t169.length co10)] 35 (0, 0))) ∧ Aside0 (wc.heap[gb163]? = some (.cells #[.int .i64 0, .int .i64 0, .int .i64 0, .int .i64 0, .int .i64 0, (.slice none 0 0)] 35 (0, 0))) ∧ Aside0 (Below w.heap.size w wc))
   case first =>
    have H := HC31.out; clear HC31
    by_cases c34 : (t169.length : Int) > 0
    case neg =>
     rw [if_neg c34] at H; have c34b0 : decide (0 < (t169.length : Int)) = false := decide_eq_false c34
     have c34b1 : decide (0 < t169.length) = false := decide_eq_false (by omega)
     clear c34
     (first | rw [c34b0] | (simp only [i64_w, i32_w]; rw [c34b0]) | (rw [c34b2]; try simp only [Bool.not_false, Bool.not_true]) | skip)
     have H' := am_ H
     clear H
     try go_wp2
     have n0_ := am_ (Kd.Q_drew HO_163005.out); have n1_ := am_ (Kd.R_drew HO178.out); have n2_ := am_ (blk_drew BK162.out); have n3_ := am_ (blk_drew BK163.out); have n4_ := am_ (below_drew1 HB.out); clear HO_163005 HO178 BK162 BK163 HB; have HO_163005 := n0_; have HO178 := n1_; have BK162 := n2_; have BK163 := n3_; have HB := n4_; clear n0_ n1_ n2_ n3_ n4_
     refine start_ (n := 14) (S := fun w' => w'.cell? ⟨gb162, 0, none⟩ = some (.int .i64 t164) ∧ w'.cell? ⟨gb162, 1, none⟩ = some (.int .i64 t165) ∧ w'.cell? ⟨gb162, 2, none⟩ = some (.int .i64 t166) ∧ w'.cell? ⟨gb162, 3, none⟩ = some (.int .i64 t167) ∧ w'.cell? ⟨gb162, 4, none⟩ = some (.int .i64 t168) ∧ w'.cell? ⟨gb162, 5, none⟩ = some (.slice Ao10 t169.length co10)) (ds := []) #[false, false, false, false, false, false, false, false, false, false, false, false, false, false] (by kernel_rfl) rfl rfl ⟨(blk_cell BK162.out 0).trans rfl, (blk_cell BK162.out 1).trans rfl, (blk_cell BK162.out 2).trans rfl, (blk_cell BK162.out 3).trans rfl, (blk_cell BK162.out 4).trans rfl, (blk_cell BK162.out 5).trans rfl⟩ (fun hHeld => ?_); refine with_tabW spec_Play.tab5 spec_Play.bits5 (fun HT_ HW_ => ?_)
     generalize w32.drew = w37 at HO_163005 HO178 BK162 BK163 HB hHeld ⊢
     refine pure_ (i := 0) (N := some 26) (v := ?_) (a' := ?_) #[true, false, false, false, false, false, false, false, false, false, false, false, false, false] rfl rfl (any_of HT_.out (by kernel_rfl)) (fun _ _ _ h => h) (Or.inl ⟨by rfl, ?_⟩) ?_ ?_
     rotate_left
     ·intro w'
      go_simp
      with_reducible rfl
     rotate_left
     ·simp only [Act.put, List.setIfInBounds_toArray, List.set_cons_zero, List.set_cons_succ, i64_w, i32_w]
      rfl
     refine take_ (i := 1) (N := some 27) (v := ?_) (a' := ?_) #[true, true, false, false, false, false, false, false, false, false, false, false, false, false] rfl rfl (take_ofW HT_.out HW_.out (by kernel_rfl)) (fun _ _ _ h => h) (Or.inl ⟨by rfl, ?_⟩) hHeld ?_ ?_
     rotate_left
     ·rintro w' ⟨s0, s1, s2, s3, s4, s5⟩
      go_simp
      with_reducible rfl
     rotate_left
     ·simp only [Act.put, List.setIfInBounds_toArray, List.set_cons_zero, List.set_cons_succ, i64_w, i32_w]
      rfl
     refine pure_ (i := 2) (N := some 28) (v := ?_) (a' := ?_) #[true, true, true, false, false, false, false, false, false, false, false, false, false, false] rfl rfl (any_of HT_.out (by kernel_rfl)) (fun _ _ _ h => h) (Or.inl ⟨by rfl, ?_⟩) ?_ ?_
     rotate_left
     ·intro w'
      go_simp
      with_reducible rfl
     rotate_left
     ·simp only [Act.put, List.setIfInBounds_toArray, List.set_cons_zero, List.set_cons_succ, i64_w, i32_w]
      rfl
     refine pure_ (i := 3) (N := some 29) (v := ?_) (a' := ?_) #[true, true, true, true, false, false, false, false, false, false, false, false, false, false] rfl rfl (any_of HT_.out (by kernel_rfl)) (fun _ _ _ h => h) (Or.inl ⟨by rfl, ?_⟩) ?_ ?_
     rotate_left
     ·intro w'
      go_simp
      with_reducible rfl
     rotate_left
     ·simp only [Act.put, List.setIfInBounds_toArray, List.set_cons_zero, List.set_cons_succ, i64_w, i32_w]
      rfl
     refine pure_ (i := 4) (N := some 30) (v := ?_) (a' := ?_) #[true, true, true, true, true, false, false, false, false, false, false, false, false, false] rfl rfl (any_of HT_.out (by kernel_rfl)) (fun _ _ _ h => h) (Or.inl ⟨by rfl, ?_⟩) ?_ ?_
     rotate_left
     ·intro w'
      go_simp
      with_reducible rfl
     rotate_left
     ·simp only [Act.put, List.setIfInBounds_toArray, List.set_cons_zero, List.set_cons_succ, i64_w, i32_w]
      rfl
     refine pure_ (i := 5) (N := some 31) (v := undef) (a' := ?_) #[true, true, true, true, true, true, false, false, false, false, false, false, false, false] rfl rfl (any_of HT_.out (by kernel_rfl)) (fun _ _ _ h => h) (Or.inr ⟨by rfl, rfl⟩) ?_ ?_
     rotate_left
     ·simp only [Act.put, List.setIfInBounds_toArray, List.set_cons_zero, List.set_cons_succ, i64_w, i32_w]
      rfl
     refine pure_ (i := 6) (N := some 32) (v := undef) (a' := ?_) #[true, true, true, true, true, true, true, false, false, false, false, false, false, false] rfl rfl (any_of HT_.out (by kernel_rfl)) (fun _ _ _ h => h) (Or.inr ⟨by rfl, rfl⟩) ?_ ?_
     rotate_left
     ·simp only [Act.put, List.setIfInBounds_toArray, List.set_cons_zero, List.set_cons_succ, i64_w, i32_w]
      rfl
     refine pure_ (i := 7) (N := some 33) (v := undef) (a' := ?_) #[true, true, true, true, true, true, true, true, false, false, false, false, false, false] rfl rfl (any_of HT_.out (by kernel_rfl)) (fun _ _ _ h => h) (Or.inr ⟨by rfl, rfl⟩) ?_ ?_
     rotate_left
     ·simp only [Act.put, List.setIfInBounds_toArray, List.set_cons_zero, List.set_cons_succ, i64_w, i32_w]
      rfl
     refine pure_ (i := 8) (N := some 34) (v := undef) (a' := ?_) #[true, true, true, true, true, true, true, true, true, false, false, false, false, false] rfl rfl (any_of HT_.out (by kernel_rfl)) (fun _ _ _ h => h) (Or.inr ⟨by rfl, rfl⟩) ?_ ?_
     rotate_left
     ·simp only [Act.put, List.setIfInBounds_toArray, List.set_cons_zero, List.set_cons_succ, i64_w, i32_w]
      rfl
     refine pure_ (i := 9) (N := some 35) (v := undef) (a' := ?_) #[true, true, true, true, true, true, true, true, true, true, false, false, false, false] rfl rfl (any_of HT_.out (by kernel_rfl)) (fun _ _ _ h => h) (Or.inr ⟨by rfl, rfl⟩) ?_ ?_
     rotate_left
     ·simp only [Act.put, List.setIfInBounds_toArray, List.set_cons_zero, List.set_cons_succ, i64_w, i32_w]
      rfl
     refine pure_ (i := 10) (N := some 36) (v := undef) (a' := ?_) #[true, true, true, true, true, true, true, true, true, true, true, false, false, false] rfl rfl (any_of HT_.out (by kernel_rfl)) (fun _ _ _ h => h) (Or.inr ⟨by rfl, rfl⟩) ?_ ?_
     rotate_left
     ·simp only [Act.put, List.setIfInBounds_toArray, List.set_cons_zero, List.set_cons_succ, i64_w, i32_w]
      rfl
     refine pure_ (i := 11) (N := some 37) (v := undef) (a' := ?_) #[true, true, true, true, true, true, true, true, true, true, true, true, false, false] rfl rfl (any_of HT_.out (by kernel_rfl)) (fun _ _ _ h => h) (Or.inr ⟨by rfl, rfl⟩) ?_ ?_
     rotate_left
     ·simp only [Act.put, List.setIfInBounds_toArray, List.set_cons_zero, List.set_cons_succ, i64_w, i32_w]
      rfl
     refine pure_ (i := 12) (N := some 38) (v := undef) (a' := ?_) #[true, true, true, true, true, true, true, true, true, true, true, true, true, false] rfl rfl (any_of HT_.out (by kernel_rfl)) (fun _ _ _ h => h) (Or.inr ⟨by rfl, rfl⟩) ?_ ?_
     rotate_left
     ·simp only [Act.put, List.setIfInBounds_toArray, List.set_cons_zero, List.set_cons_succ, i64_w, i32_w]
      rfl
     refine pure_ (i := 13) (N := some 39) (v := ?_) (a' := ?_) #[true, true, true, true, true, true, true, true, true, true, true, true, true, true] rfl rfl (any_of HT_.out (by kernel_rfl)) (fun _ _ _ h => h) (Or.inl ⟨by rfl, ?_⟩) ?_ ?_
     rotate_left
     ·intro w'
      go_simp
      with_reducible rfl
     rotate_left
     ·simp only [Act.put, List.setIfInBounds_toArray, List.set_cons_zero, List.set_cons_succ, i64_w, i32_w]
      rfl
     refine done_ (done_of HT_.out (by kernel_rfl)) ?_
     try go_wp2
     go_meet
     case rel => exact ⟨_, (false), (by first | rfl | (simp; done) | (simp [*]; done)), H', ⟨by have := HJ2.out; first | omega | exact Nat.le_refl _⟩, ⟨pR_ HO178.out⟩, ⟨by (with_reducible repeat (first | apply Kd.Q_alloc | apply Kd.Q_drewN | apply Kd.Q_drew)); exact HO_163005.out⟩, ⟨pB_ BK162.out⟩, ⟨pB_ BK163.out⟩, ⟨belowNow⟩⟩
    rw [if_pos c34] at H; have c34b0 : decide (0 < (t169.length : Int)) = true := decide_eq_true c34
    have c34b1 : decide (0 < t169.length) = true := decide_eq_true (by omega)
    clear c34
    (first | rw [c34b0] | (simp only [i64_w, i32_w]; rw [c34b0]) | (rw [c34b2]; try simp only [Bool.not_false, Bool.not_true]) | skip)
    by_cases c35 : 0 < (t169.length : Int)
    case neg =>
     rw [if_neg c35] at H
     exact absurd H (by simp)
    rw [if_pos c35] at H; have c35b0 : decide (0 < (t169.length : Int)) = true := decide_eq_true c35
    have c35b1 : decide (0 < t169.length) = true := decide_eq_true (by omega)
    clear c35
    have H' := am_ H
    clear H
    try go_wp2
    have n0_ := am_ (Kd.Q_drew HO_163005.out); have n1_ := am_ (Kd.R_drew HO178.out); have n2_ := am_ (blk_drew BK162.out); have n3_ := am_ (blk_drew BK163.out); have n4_ := am_ (below_drew1 HB.out); clear HO_163005 HO178 BK162 BK163 HB; have HO_163005 := n0_; have HO178 := n1_; have BK162 := n2_; have BK163 := n3_; have HB := n4_; clear n0_ n1_ n2_ n3_ n4_
    have p179 : 0 ≤ (0 : Int) := (by omega)
    have q179 : 0 < (t169.length : Int) := of_decide_eq_true (by first | (with_reducible assumption) | assumption)
    obtain ⟨ad179, e179, hx179_0, hx179_1, hx179_2, hx179_3, hx179_4, hx179_5, hx179_6, hx179_7, hx179_8, hx179_9, hx179_10, hx179_11, hx179_12, hx179_13, hx179_14, hx179_15, hx179_16, hx179_17⟩ := at_T44 (Kd.Q_reads' HO_163005.out).2.2 0 p179 q179
    cases e179
    have qi179 : (0 < t169.length) = True := eq_true (by omega)
    (try rw [show ((0 : Int)).toNat = 0 from rfl] at hx179_0)
    (try rw [show 0 * 18 = 0 from rfl] at hx179_0)
    (try rw [Addr.add_zero'] at hx179_0)
    (try rw [show ((0 : Int)).toNat = 0 from rfl] at hx179_1)
    (try rw [show 0 * 18 = 0 from rfl] at hx179_1)
    (try rw [Addr.add_zero'] at hx179_1)
    (try rw [show ((0 : Int)).toNat = 0 from rfl] at hx179_2)
    (try rw [show 0 * 18 = 0 from rfl] at hx179_2)
    (try rw [Addr.add_zero'] at hx179_2)
    (try rw [show ((0 : Int)).toNat = 0 from rfl] at hx179_3)
    (try rw [show 0 * 18 = 0 from rfl] at hx179_3)
    (try rw [Addr.add_zero'] at hx179_3)
    (try rw [show ((0 : Int)).toNat = 0 from rfl] at hx179_4)
    (try rw [show 0 * 18 = 0 from rfl] at hx179_4)
    (try rw [Addr.add_zero'] at hx179_4)
    (try rw [show ((0 : Int)).toNat = 0 from rfl] at hx179_5)
    (try rw [show 0 * 18 = 0 from rfl] at hx179_5)
    (try rw [Addr.add_zero'] at hx179_5)
    (try rw [show ((0 : Int)).toNat = 0 from rfl] at hx179_6)
    (try rw [show 0 * 18 = 0 from rfl] at hx179_6)
    (try rw [Addr.add_zero'] at hx179_6)
    (try rw [show ((0 : Int)).toNat = 0 from rfl] at hx179_7)
    (try rw [show 0 * 18 = 0 from rfl] at hx179_7)
    (try rw [Addr.add_zero'] at hx179_7)
    (try rw [show ((0 : Int)).toNat = 0 from rfl] at hx179_8)
    (try rw [show 0 * 18 = 0 from rfl] at hx179_8)
    (try rw [Addr.add_zero'] at hx179_8)
    (try rw [show ((0 : Int)).toNat = 0 from rfl] at hx179_9)
    (try rw [show 0 * 18 = 0 from rfl] at hx179_9)
    (try rw [Addr.add_zero'] at hx179_9)
    (try rw [show ((0 : Int)).toNat = 0 from rfl] at hx179_10)
    (try rw [show 0 * 18 = 0 from rfl] at hx179_10)
    (try rw [Addr.add_zero'] at hx179_10)
    (try rw [show ((0 : Int)).toNat = 0 from rfl] at hx179_11)
    (try rw [show 0 * 18 = 0 from rfl] at hx179_11)
    (try rw [Addr.add_zero'] at hx179_11)
    (try rw [show ((0 : Int)).toNat = 0 from rfl] at hx179_12)
    (try rw [show 0 * 18 = 0 from rfl] at hx179_12)
    (try rw [Addr.add_zero'] at hx179_12)
    (try rw [show ((0 : Int)).toNat = 0 from rfl] at hx179_13)
    (try rw [show 0 * 18 = 0 from rfl] at hx179_13)
    (try rw [Addr.add_zero'] at hx179_13)
    (try rw [show ((0 : Int)).toNat = 0 from rfl] at hx179_14)
    (try rw [show 0 * 18 = 0 from rfl] at hx179_14)
    (try rw [Addr.add_zero'] at hx179_14)
    (try rw [show ((0 : Int)).toNat = 0 from rfl] at hx179_15)
    (try rw [show 0 * 18 = 0 from rfl] at hx179_15)
    (try rw [Addr.add_zero'] at hx179_15)
    (try rw [show ((0 : Int)).toNat = 0 from rfl] at hx179_16)
    (try rw [show 0 * 18 = 0 from rfl] at hx179_16)
    (try rw [Addr.add_zero'] at hx179_16)
    (try rw [show ((0 : Int)).toNat = 0 from rfl] at hx179_17)
    (try rw [show 0 * 18 = 0 from rfl] at hx179_17)
    (try rw [Addr.add_zero'] at hx179_17)
    replace p179 := eq_true p179; replace q179 := eq_true q179
    refine start_ (n := 14) (S := fun w' => w'.cell? ⟨gb162, 0, none⟩ = some (.int .i64 t164) ∧ w'.cell? ⟨gb162, 1, none⟩ = some (.int .i64 t165) ∧ w'.cell? ⟨gb162, 2, none⟩ = some (.int .i64 t166) ∧ w'.cell? ⟨gb162, 3, none⟩ = some (.int .i64 t167) ∧ w'.cell? ⟨gb162, 4, none⟩ = some (.int .i64 t168) ∧ w'.cell? ⟨gb162, 5, none⟩ = some (.slice (some ad179) t169.length co10) ∧ w'.cell? ad179 = some (.int .i64 ((rd_T44 t169 0).f0)) ∧ w'.cell? ⟨ad179.block, ad179.off + 1, none⟩ = some (.int .i64 ((rd_T44 t169 0).f1)) ∧ w'.cell? ⟨ad179.block, ad179.off + 2, none⟩ = some (.int .u8 ((rd_T44 t169 0).f2.f0)) ∧ w'.cell? ⟨ad179.block, ad179.off + 3, none⟩ = some (.int .u8 ((rd_T44 t169 0).f2.f1)) ∧ w'.cell? ⟨ad179.block, ad179.off + 4, none⟩ = some (.int .u8 ((rd_T44 t169 0).f2.f2)) ∧ w'.cell? ⟨ad179.block, ad179.off + 5, none⟩ = some (.int .u8 ((rd_T44 t169 0).f2.f3)) ∧ w'.cell? ⟨ad179.block, ad179.off + 6, none⟩ = some (.int .u8 ((rd_T44 t169 0).f2.f4)) ∧ w'.cell? ⟨ad179.block, ad179.off + 7, none⟩ = some (.int .u8 ((rd_T44 t169 0).f2.f5)) ∧ w'.cell? ⟨ad179.block, ad179.off + 8, none⟩ = some (.int .u8 ((rd_T44 t169 0).f2.f6)) ∧ w'.cell? ⟨ad179.block, ad179.off + 9, none⟩ = some (.int .u8 ((rd_T44 t169 0).f2.f7)) ∧ w'.cell? ⟨ad179.block, ad179.off + 10, none⟩ = some (.int .u8 ((rd_T44 t169 0).f2.f8)) ∧ w'.cell? ⟨ad179.block, ad179.off + 11, none⟩ = some (.int .u8 ((rd_T44 t169 0).f2.f9)) ∧ w'.cell? ⟨ad179.block, ad179.off + 12, none⟩ = some (.int .u8 ((rd_T44 t169 0).f2.f10)) ∧ w'.cell? ⟨ad179.block, ad179.off + 13, none⟩ = some (.int .u8 ((rd_T44 t169 0).f2.f11)) ∧ w'.cell? ⟨ad179.block, ad179.off + 14, none⟩ = some (.int .u8 ((rd_T44 t169 0).f2.f12)) ∧ w'.cell? ⟨ad179.block, ad179.off + 15, none⟩ = some (.int .u8 ((rd_T44 t169 0).f2.f13)) ∧ w'.cell? ⟨ad179.block, ad179.off + 16, none⟩ = some (.int .u8 ((rd_T44 t169 0).f2.f14)) ∧ w'.cell? ⟨ad179.block, ad179.off + 17, none⟩ = some (.int .u8 ((rd_T44 t169 0).f2.f15))) (ds := []) #[false, false, false, false, false, false, false, false, false, false, false, false, false, false] (by kernel_rfl) rfl rfl ⟨(blk_cell BK162.out 0).trans rfl, (blk_cell BK162.out 1).trans rfl, (blk_cell BK162.out 2).trans rfl, (blk_cell BK162.out 3).trans rfl, (blk_cell BK162.out 4).trans rfl, (blk_cell BK162.out 5).trans rfl, hx179_0, hx179_1, hx179_2, hx179_3, hx179_4, hx179_5, hx179_6, hx179_7, hx179_8, hx179_9, hx179_10, hx179_11, hx179_12, hx179_13, hx179_14, hx179_15, hx179_16, hx179_17⟩ (fun hHeld => ?_); refine with_tabW spec_Play.tab5 spec_Play.bits5 (fun HT_ HW_ => ?_)
    generalize w32.drew = w36 at HO_163005 HO178 BK162 BK163 HB hx179_0 hx179_1 hx179_10 hx179_11 hx179_12 hx179_13 hx179_14 hx179_15 hx179_16 hx179_17 hx179_2 hx179_3 hx179_4 hx179_5 hx179_6 hx179_7 hx179_8 hx179_9 hHeld ⊢
    refine pure_ (i := 0) (N := some 26) (v := ?_) (a' := ?_) #[true, false, false, false, false, false, false, false, false, false, false, false, false, false] rfl rfl (any_of HT_.out (by kernel_rfl)) (fun _ _ _ h => h) (Or.inl ⟨by rfl, ?_⟩) ?_ ?_
    rotate_left
    ·intro w'
     go_simp
     with_reducible rfl
    rotate_left
    ·simp only [Act.put, List.setIfInBounds_toArray, List.set_cons_zero, List.set_cons_succ, i64_w, i32_w]
     rfl
    refine take_ (i := 1) (N := some 27) (v := ?_) (a' := ?_) #[true, true, false, false, false, false, false, false, false, false, false, false, false, false] rfl rfl (take_ofW HT_.out HW_.out (by kernel_rfl)) (fun _ _ _ h => h) (Or.inl ⟨by rfl, ?_⟩) hHeld ?_ ?_
    rotate_left
    ·rintro w' ⟨s0, s1, s2, s3, s4, s5, s6, s7, s8, s9, s10, s11, s12, s13, s14, s15, s16, s17, s18, s19, s20, s21, s22, s23⟩
     go_simp
     with_reducible rfl
    rotate_left
    ·simp only [Act.put, List.setIfInBounds_toArray, List.set_cons_zero, List.set_cons_succ, i64_w, i32_w]
     rfl
    refine pure_ (i := 2) (N := some 28) (v := ?_) (a' := ?_) #[true, true, true, false, false, false, false, false, false, false, false, false, false, false] rfl rfl (any_of HT_.out (by kernel_rfl)) (fun _ _ _ h => h) (Or.inl ⟨by rfl, ?_⟩) ?_ ?_
    rotate_left
    ·intro w'
     go_simp
     with_reducible rfl
    rotate_left
    ·simp only [Act.put, List.setIfInBounds_toArray, List.set_cons_zero, List.set_cons_succ, i64_w, i32_w]
     rfl
    refine pure_ (i := 3) (N := some 29) (v := ?_) (a' := ?_) #[true, true, true, true, false, false, false, false, false, false, false, false, false, false] rfl rfl (any_of HT_.out (by kernel_rfl)) (fun _ _ _ h => h) (Or.inl ⟨by rfl, ?_⟩) ?_ ?_
    rotate_left
    ·intro w'
     go_simp
     with_reducible rfl
    rotate_left
    ·simp only [Act.put, List.setIfInBounds_toArray, List.set_cons_zero, List.set_cons_succ, i64_w, i32_w]
     rfl
    refine pure_ (i := 4) (N := some 30) (v := ?_) (a' := ?_) #[true, true, true, true, true, false, false, false, false, false, false, false, false, false] rfl rfl (any_of HT_.out (by kernel_rfl)) (fun _ _ _ h => h) (Or.inl ⟨by rfl, ?_⟩) ?_ ?_
    rotate_left
    ·intro w'
     go_simp
     with_reducible rfl
    rotate_left
    ·simp only [Act.put, List.setIfInBounds_toArray, List.set_cons_zero, List.set_cons_succ, i64_w, i32_w]
     rfl
    refine pure_ (i := 5) (N := some 31) (v := ?_) (a' := ?_) #[true, true, true, true, true, true, false, false, false, false, false, false, false, false] rfl rfl (any_of HT_.out (by kernel_rfl)) (fun _ _ _ h => h) (Or.inl ⟨by rfl, ?_⟩) ?_ ?_
    rotate_left
    ·intro w'
     go_simp
     with_reducible rfl
    rotate_left
    ·simp only [Act.put, List.setIfInBounds_toArray, List.set_cons_zero, List.set_cons_succ, i64_w, i32_w]
     rfl
    refine pure_ (i := 10) (N := some 36) (v := ?_) (a' := ?_) #[true, true, true, true, true, true, false, false, false, false, true, false, false, false] rfl rfl (any_of HT_.out (by kernel_rfl)) (fun _ _ _ h => h) (Or.inl ⟨by rfl, ?_⟩) ?_ ?_
    rotate_left
    ·intro w'
     go_simp
     with_reducible rfl
    rotate_left
    ·simp only [Act.put, List.setIfInBounds_toArray, List.set_cons_zero, List.set_cons_succ, i64_w, i32_w]
     rfl
    refine take_ (i := 6) (N := some 32) (v := ?_) (a' := ?_) #[true, true, true, true, true, true, true, false, false, false, true, false, false, false] rfl rfl (take_ofW HT_.out HW_.out (by kernel_rfl)) (fun _ _ _ h => h) (Or.inl ⟨by rfl, ?_⟩) hHeld ?_ ?_
    rotate_left
    ·rintro w' ⟨s0, s1, s2, s3, s4, s5, s6, s7, s8, s9, s10, s11, s12, s13, s14, s15, s16, s17, s18, s19, s20, s21, s22, s23⟩
     go_simp
     with_reducible rfl
    rotate_left
    ·simp only [Act.put, List.setIfInBounds_toArray, List.set_cons_zero, List.set_cons_succ, i64_w, i32_w]
     rfl
    refine pure_ (i := 7) (N := some 33) (v := ?_) (a' := ?_) #[true, true, true, true, true, true, true, true, false, false, true, false, false, false] rfl rfl (any_of HT_.out (by kernel_rfl)) (fun _ _ _ h => h) (Or.inl ⟨by rfl, ?_⟩) ?_ ?_
    rotate_left
    ·intro w'
     go_simp
     with_reducible rfl
    rotate_left
    ·simp only [Act.put, List.setIfInBounds_toArray, List.set_cons_zero, List.set_cons_succ, i64_w, i32_w]
     rfl
    refine pure_ (i := 8) (N := some 34) (v := ?_) (a' := ?_) #[true, true, true, true, true, true, true, true, true, false, true, false, false, false] rfl rfl (any_of HT_.out (by kernel_rfl)) (fun _ _ _ h => h) (Or.inl ⟨by rfl, ?_⟩) ?_ ?_
    rotate_left
    ·intro w'
     go_simp
     with_reducible rfl
    rotate_left
    ·simp only [Act.put, List.setIfInBounds_toArray, List.set_cons_zero, List.set_cons_succ, i64_w, i32_w]
     rfl
    refine take_ (i := 9) (N := some 35) (v := ?_) (a' := ?_) #[true, true, true, true, true, true, true, true, true, true, true, false, false, false] rfl rfl (take_ofW HT_.out HW_.out (by kernel_rfl)) (fun _ _ _ h => h) (Or.inl ⟨by rfl, ?_⟩) hHeld ?_ ?_
    rotate_left
    ·rintro w' ⟨s0, s1, s2, s3, s4, s5, s6, s7, s8, s9, s10, s11, s12, s13, s14, s15, s16, s17, s18, s19, s20, s21, s22, s23⟩
     go_simp
     with_reducible rfl
    rotate_left
    ·simp only [Act.put, List.setIfInBounds_toArray, List.set_cons_zero, List.set_cons_succ, i64_w, i32_w]
     rfl
    refine take_ (i := 11) (N := some 37) (v := ?_) (a' := ?_) #[true, true, true, true, true, true, true, true, true, true, true, true, false, false] rfl rfl (take_ofW HT_.out HW_.out (by kernel_rfl)) (fun _ _ _ h => h) (Or.inl ⟨by rfl, ?_⟩) hHeld ?_ ?_
    rotate_left
    ·rintro w' ⟨s0, s1, s2, s3, s4, s5, s6, s7, s8, s9, s10, s11, s12, s13, s14, s15, s16, s17, s18, s19, s20, s21, s22, s23⟩
     go_simp
     with_reducible rfl
    rotate_left
    ·simp only [Act.put, List.setIfInBounds_toArray, List.set_cons_zero, List.set_cons_succ, i64_w, i32_w]
     rfl
    refine pure_ (i := 12) (N := some 38) (v := ?_) (a' := ?_) #[true, true, true, true, true, true, true, true, true, true, true, true, true, false] rfl rfl (any_of HT_.out (by kernel_rfl)) (fun _ _ _ h => h) (Or.inl ⟨by rfl, ?_⟩) ?_ ?_
    rotate_left
    ·intro w'
     go_simp
     with_reducible rfl
    rotate_left
    ·simp only [Act.put, List.setIfInBounds_toArray, List.set_cons_zero, List.set_cons_succ, i64_w, i32_w]
     rfl
    refine pure_ (i := 13) (N := some 39) (v := ?_) (a' := ?_) #[true, true, true, true, true, true, true, true, true, true, true, true, true, true] rfl rfl (any_of HT_.out (by kernel_rfl)) (fun _ _ _ h => h) (Or.inl ⟨by rfl, ?_⟩) ?_ ?_
    rotate_left
    ·intro w'
     go_simp
     with_reducible rfl
    rotate_left
    ·simp only [Act.put, List.setIfInBounds_toArray, List.set_cons_zero, List.set_cons_succ, i64_w, i32_w]
     rfl
    refine done_ (done_of HT_.out (by kernel_rfl)) ?_
    try go_wp2
    go_meet
    case rel => exact ⟨_, ((((rd_T44 t169 0).f1) == t164)), (by first | rfl | (simp; done) | (simp [*]; done)), H', ⟨by have := HJ2.out; first | omega | exact Nat.le_refl _⟩, ⟨pR_ HO178.out⟩, ⟨by (with_reducible repeat (first | apply Kd.Q_alloc | apply Kd.Q_drewN | apply Kd.Q_drew)); exact HO_163005.out⟩, ⟨pB_ BK162.out⟩, ⟨pB_ BK163.out⟩, ⟨belowNow⟩⟩
   case rest =>
    clear HC31; (try clear c1); (try clear p1); (try clear q1); (try clear hx1); (try clear qi1); (try clear c2); (try clear p2); (try clear c3); (try clear c5); (try clear c6); (try clear c12); (try clear c13); (try clear c13b0); (try clear c13b1); (try clear c14); (try clear p17); (try clear q17); (try clear hx17); (try clear qi17); (try clear c18); (try clear c22); (try clear c25); (try clear c26); (try clear c29); (try clear c34); (try clear c34b0); (try clear c34b1); (try clear c35); (try clear c35b0); (try clear c35b1); (try clear hcz15_0 hcz15_1 hcz15_2 hcz15_3 hcz15_4 hcz15_5); (try clear hcz17_0 hcz17_1 hcz17_2 hcz17_3 hcz17_4 hcz17_5); (try clear hcz19_0 hcz19_1 hcz19_2 hcz19_3 hcz19_4 hcz19_5); (try clear hcz21_0 hcz21_1 hcz21_2 hcz21_3 hcz21_4 hcz21_5); (try clear hcz23_0 hcz23_1 hcz23_2 hcz23_3 hcz23_4 hcz23_5); (try clear hcz27_0 hcz27_1 hcz27_2 hcz27_3 hcz27_4 hcz27_5); (try clear hcz30_0 hcz30_1 hcz30_2 hcz30_3 hcz30_4 hcz30_5); (try clear hcz7_0 hcz7_1 hcz7_2 hcz7_3 hcz7_4 hcz7_5); (try clear hcz9_0 hcz9_1 hcz9_2 hcz9_3 hcz9_4 hcz9_5); (try clear hfz15_0 hfz15_1 hfz15_2 hfz15_3 hfz15_4 hfz15_5); (try clear hfz17_0 hfz17_1 hfz17_2 hfz17_3 hfz17_4 hfz17_5); (try clear hfz19_0 hfz19_1 hfz19_2 hfz19_3 hfz19_4 hfz19_5); (try clear hfz21_0 hfz21_1 hfz21_2 hfz21_3 hfz21_4 hfz21_5); (try clear hfz23_0 hfz23_1 hfz23_2 hfz23_3 hfz23_4 hfz23_5); (try clear hfz27_0 hfz27_1 hfz27_2 hfz27_3 hfz27_4 hfz27_5); (try clear hfz30_0 hfz30_1 hfz30_2 hfz30_3 hfz30_4 hfz30_5); (try clear hfz7_0 hfz7_1 hfz7_2 hfz7_3 hfz7_4 hfz7_5); (try clear hfz9_0 hfz9_1 hfz9_2 hfz9_3 hfz9_4 hfz9_5); (try clear hx179_0); (try clear hx179_1); (try clear hx179_10); (try clear hx179_11); (try clear hx179_12); (try clear hx179_13); (try clear hx179_14); (try clear hx179_15); (try clear hx179_16); (try clear hx179_17); (try clear hx179_2); (try clear hx179_3); (try clear hx179_4); (try clear hx179_5); (try clear hx179_6); (try clear hx179_7); (try clear hx179_8); (try clear hx179_9); (try clear p179); (try clear p2); (try clear q179); obtain ⟨kq, x39_30, rfl, HA, HJ30, HO_5, HO_163005, BK162, BK163, HB⟩ := hcut
    cases kq with
    | zero => exact absurd HA.out (by simp [spec_Play.j1])
    | succ kj30 =>
     have H := HA.out; clear HA; simp only [spec_Play.j1] at H; have HC38 := am_ H; clear H
     go_upto_if 39 with (fail)
     go_cut [5, 6] (fun v5 v6 wc => ∃ (kq : Nat) (x5_37 : List Int) (x6_37 : Bool) (x163005_37 : List (S44)) (u163005 : Value), v6 = .bool x6_37 ∧ Aside0 (spec_Play.j2 kq x5_37 x6_37 t164 t165 t166 t167 t168 x163005_37 = some (r1, r2, r3, r4, r5, r6, r7, r8)) ∧ Aside0 (kq ≤ kj30) ∧ Aside0 (Kd.R (Kd.int .i64) 3 wc w.heap.size (fun _ => True) v5 x5_37) ∧ Aside0 (Kd.Q k44 44 wc w.heap.size (fun _ => True) u163005 x163005_37) ∧ Aside0 (wc.heap[gb162]? = some (.cells #[.int .i64 t164, .int .i64 t165, .int .i64 t166, .int .i64 t167, .int .i64 t168, u163005] 35 (0, 0))) ∧ Aside0 (wc.heap[gb163]? = some (.cells #[.int .i64 0, .int .i64 0, .int .i64 0, .int .i64 0, .int .i64 0, (.slice none 0 0)] 35 (0, 0))) ∧ Aside0 (Below w.heap.size w wc))
     case first =>
      have H := HC38.out; clear HC38
      by_cases c39 : x39_30 = true
      case neg =>
       replace c39 := Bool.eq_false_iff.mpr c39; subst c39
       have H1 : (spec_Play.j2 kj30 y176 false t164 t165 t166 t167 t168 t169) = some (r1, r2, r3, r4, r5, r6, r7, r8) := by rw [if_neg (show ¬ (false = true) by decide)] at H; exact H
       clear H; have H := H1; clear H1
       have H' := am_ H
       clear H
       go_wp2
       go_meet
       case rel => exact ⟨_, (y176), (false), (t169), (.slice Ao10 t169.length co10), (by first | rfl | (simp; done) | (simp [*]; done)), H', ⟨by have := HJ2.out; have := HJ30.out; first | omega | exact Nat.le_refl _⟩, ⟨pR_ HO_5.out⟩, ⟨by (with_reducible repeat (first | apply Kd.Q_alloc | apply Kd.Q_drewN | apply Kd.Q_drew)); exact HO_163005.out⟩, ⟨pB_ BK162.out⟩, ⟨pB_ BK163.out⟩, ⟨belowNow⟩⟩
      subst c39
      have H1 : (if 0 < (t169.length : Int) then ((spec_OfFrame.f kj30 t168 ((rd_T44 t169 0).f2.f0) ((rd_T44 t169 0).f2.f1) ((rd_T44 t169 0).f2.f2) ((rd_T44 t169 0).f2.f3) ((rd_T44 t169 0).f2.f4) ((rd_T44 t169 0).f2.f5) ((rd_T44 t169 0).f2.f6) ((rd_T44 t169 0).f2.f7) ((rd_T44 t169 0).f2.f8) ((rd_T44 t169 0).f2.f9) ((rd_T44 t169 0).f2.f10) ((rd_T44 t169 0).f2.f11) ((rd_T44 t169 0).f2.f12) ((rd_T44 t169 0).f2.f13) ((rd_T44 t169 0).f2.f14) ((rd_T44 t169 0).f2.f15)).bind fun bt181 => (if 1 ≤ (t169.length : Int) then (spec_Play.j2 kj30 bt181.1 bt181.2.2.2 t164 t165 t166 t167 t168 (t169.drop (1 : Int).toNat)) else (none))) else (none)) = some (r1, r2, r3, r4, r5, r6, r7, r8) := by rw [if_pos rfl] at H; exact H
      clear H; have H := H1; clear H1
      by_cases c40 : 0 < (t169.length : Int)
      case neg =>
       rw [if_neg c40] at H
       exact absurd H (by simp)
      rw [if_pos c40] at H; have c40b0 : decide (0 < (t169.length : Int)) = true := decide_eq_true c40
      have c40b1 : decide (0 < t169.length) = true := decide_eq_true (by omega)
      clear c40
      (first | rw [c40b0] | (simp only [i64_w, i32_w]; rw [c40b0]) | (rw [c40b2]; try simp only [Bool.not_false, Bool.not_true]) | skip)
      replace H := Option.bind_eq_some_iff.mp H; obtain ⟨⟨t181, t184, t185, t186⟩, A410, H⟩ := H
      replace H : (if 1 ≤ (t169.length : Int) then (spec_Play.j2 kj30 t181 t186 t164 t165 t166 t167 t168 (t169.drop (1 : Int).toNat)) else (none)) = some (r1, r2, r3, r4, r5, r6, r7, r8) := H
      have A41 := am_ A410; clear A410
      by_cases c42 : 1 ≤ (t169.length : Int)
      case neg =>
       rw [if_neg c42] at H
       exact absurd H (by simp)
      rw [if_pos c42] at H; have c42b0 := eq_true c42; have c42b1 : decide (1 ≤ (t169.length : Int)) = true := decide_eq_true c42; clear c42; obtain ⟨y187, hy187⟩ : ∃ y_ : List (S44), y_ = (t169.drop (1 : Int).toNat) := ⟨_, rfl⟩
      replace H : (spec_Play.j2 kj30 t181 t186 t164 t165 t166 t167 t168 y187) = some (r1, r2, r3, r4, r5, r6, r7, r8) := by first | (rw [hy187]; with_reducible exact H) | (have H2_ := (Option.bind_some _ _).symm.trans H; rw [hy187]; with_reducible exact H2_) | (have H2_ := (Option.bind_some _ _).symm.trans H; with_reducible exact H2_) | with_reducible exact H | (rw [hy187]; exact H) | exact H
      have Ny187 := am_ hy187; clear hy187
      have H' := am_ H
      clear H
      try go_wp2
      have n0_ := am_ (Kd.R_drew HO_5.out); have n1_ := am_ (Kd.Q_drew HO_163005.out); have n2_ := am_ (blk_drew BK162.out); have n3_ := am_ (blk_drew BK163.out); have n4_ := am_ (below_drew1 HB.out); clear HO_5 HO_163005 BK162 BK163 HB; have HO_5 := n0_; have HO_163005 := n1_; have BK162 := n2_; have BK163 := n3_; have HB := n4_; clear n0_ n1_ n2_ n3_ n4_
      have p180 : 0 ≤ (0 : Int) := (by omega)
      have q180 : 0 < (t169.length : Int) := of_decide_eq_true (by first | (with_reducible assumption) | assumption)
      obtain ⟨ad180, e180, hx180_0, hx180_1, hx180_2, hx180_3, hx180_4, hx180_5, hx180_6, hx180_7, hx180_8, hx180_9, hx180_10, hx180_11, hx180_12, hx180_13, hx180_14, hx180_15, hx180_16, hx180_17⟩ := at_T44 (Kd.Q_reads' HO_163005.out).2.2 0 p180 q180
      cases e180
      have qi180 : (0 < t169.length) = True := eq_true (by omega)
      (try rw [show ((0 : Int)).toNat = 0 from rfl] at hx180_0)
      (try rw [show 0 * 18 = 0 from rfl] at hx180_0)
      (try rw [Addr.add_zero'] at hx180_0)
      (try rw [show ((0 : Int)).toNat = 0 from rfl] at hx180_1)
      (try rw [show 0 * 18 = 0 from rfl] at hx180_1)
      (try rw [Addr.add_zero'] at hx180_1)
      (try rw [show ((0 : Int)).toNat = 0 from rfl] at hx180_2)
      (try rw [show 0 * 18 = 0 from rfl] at hx180_2)
      (try rw [Addr.add_zero'] at hx180_2)
      (try rw [show ((0 : Int)).toNat = 0 from rfl] at hx180_3)
      (try rw [show 0 * 18 = 0 from rfl] at hx180_3)
      (try rw [Addr.add_zero'] at hx180_3)
      (try rw [show ((0 : Int)).toNat = 0 from rfl] at hx180_4)
      (try rw [show 0 * 18 = 0 from rfl] at hx180_4)
      (try rw [Addr.add_zero'] at hx180_4)
      (try rw [show ((0 : Int)).toNat = 0 from rfl] at hx180_5)
      (try rw [show 0 * 18 = 0 from rfl] at hx180_5)
      (try rw [Addr.add_zero'] at hx180_5)
      (try rw [show ((0 : Int)).toNat = 0 from rfl] at hx180_6)
      (try rw [show 0 * 18 = 0 from rfl] at hx180_6)
      (try rw [Addr.add_zero'] at hx180_6)
      (try rw [show ((0 : Int)).toNat = 0 from rfl] at hx180_7)
      (try rw [show 0 * 18 = 0 from rfl] at hx180_7)
      (try rw [Addr.add_zero'] at hx180_7)
      (try rw [show ((0 : Int)).toNat = 0 from rfl] at hx180_8)
      (try rw [show 0 * 18 = 0 from rfl] at hx180_8)
      (try rw [Addr.add_zero'] at hx180_8)
      (try rw [show ((0 : Int)).toNat = 0 from rfl] at hx180_9)
      (try rw [show 0 * 18 = 0 from rfl] at hx180_9)
      (try rw [Addr.add_zero'] at hx180_9)
      (try rw [show ((0 : Int)).toNat = 0 from rfl] at hx180_10)
      (try rw [show 0 * 18 = 0 from rfl] at hx180_10)
      (try rw [Addr.add_zero'] at hx180_10)
      (try rw [show ((0 : Int)).toNat = 0 from rfl] at hx180_11)
      (try rw [show 0 * 18 = 0 from rfl] at hx180_11)
      (try rw [Addr.add_zero'] at hx180_11)
      (try rw [show ((0 : Int)).toNat = 0 from rfl] at hx180_12)
      (try rw [show 0 * 18 = 0 from rfl] at hx180_12)
      (try rw [Addr.add_zero'] at hx180_12)
      (try rw [show ((0 : Int)).toNat = 0 from rfl] at hx180_13)
      (try rw [show 0 * 18 = 0 from rfl] at hx180_13)
      (try rw [Addr.add_zero'] at hx180_13)
      (try rw [show ((0 : Int)).toNat = 0 from rfl] at hx180_14)
      (try rw [show 0 * 18 = 0 from rfl] at hx180_14)
      (try rw [Addr.add_zero'] at hx180_14)
      (try rw [show ((0 : Int)).toNat = 0 from rfl] at hx180_15)
      (try rw [show 0 * 18 = 0 from rfl] at hx180_15)
      (try rw [Addr.add_zero'] at hx180_15)
      (try rw [show ((0 : Int)).toNat = 0 from rfl] at hx180_16)
      (try rw [show 0 * 18 = 0 from rfl] at hx180_16)
      (try rw [Addr.add_zero'] at hx180_16)
      (try rw [show ((0 : Int)).toNat = 0 from rfl] at hx180_17)
      (try rw [show 0 * 18 = 0 from rfl] at hx180_17)
      (try rw [Addr.add_zero'] at hx180_17)
      replace p180 := eq_true p180; replace q180 := eq_true q180
      refine start_ (n := 14) (S := fun w' => w'.cell? ⟨gb162, 0, none⟩ = some (.int .i64 t164) ∧ w'.cell? ⟨gb162, 1, none⟩ = some (.int .i64 t165) ∧ w'.cell? ⟨gb162, 2, none⟩ = some (.int .i64 t166) ∧ w'.cell? ⟨gb162, 3, none⟩ = some (.int .i64 t167) ∧ w'.cell? ⟨gb162, 4, none⟩ = some (.int .i64 t168) ∧ w'.cell? ⟨gb162, 5, none⟩ = some (.slice (some ad180) t169.length co10) ∧ w'.cell? ad180 = some (.int .i64 ((rd_T44 t169 0).f0)) ∧ w'.cell? ⟨ad180.block, ad180.off + 1, none⟩ = some (.int .i64 ((rd_T44 t169 0).f1)) ∧ w'.cell? ⟨ad180.block, ad180.off + 2, none⟩ = some (.int .u8 ((rd_T44 t169 0).f2.f0)) ∧ w'.cell? ⟨ad180.block, ad180.off + 3, none⟩ = some (.int .u8 ((rd_T44 t169 0).f2.f1)) ∧ w'.cell? ⟨ad180.block, ad180.off + 4, none⟩ = some (.int .u8 ((rd_T44 t169 0).f2.f2)) ∧ w'.cell? ⟨ad180.block, ad180.off + 5, none⟩ = some (.int .u8 ((rd_T44 t169 0).f2.f3)) ∧ w'.cell? ⟨ad180.block, ad180.off + 6, none⟩ = some (.int .u8 ((rd_T44 t169 0).f2.f4)) ∧ w'.cell? ⟨ad180.block, ad180.off + 7, none⟩ = some (.int .u8 ((rd_T44 t169 0).f2.f5)) ∧ w'.cell? ⟨ad180.block, ad180.off + 8, none⟩ = some (.int .u8 ((rd_T44 t169 0).f2.f6)) ∧ w'.cell? ⟨ad180.block, ad180.off + 9, none⟩ = some (.int .u8 ((rd_T44 t169 0).f2.f7)) ∧ w'.cell? ⟨ad180.block, ad180.off + 10, none⟩ = some (.int .u8 ((rd_T44 t169 0).f2.f8)) ∧ w'.cell? ⟨ad180.block, ad180.off + 11, none⟩ = some (.int .u8 ((rd_T44 t169 0).f2.f9)) ∧ w'.cell? ⟨ad180.block, ad180.off + 12, none⟩ = some (.int .u8 ((rd_T44 t169 0).f2.f10)) ∧ w'.cell? ⟨ad180.block, ad180.off + 13, none⟩ = some (.int .u8 ((rd_T44 t169 0).f2.f11)) ∧ w'.cell? ⟨ad180.block, ad180.off + 14, none⟩ = some (.int .u8 ((rd_T44 t169 0).f2.f12)) ∧ w'.cell? ⟨ad180.block, ad180.off + 15, none⟩ = some (.int .u8 ((rd_T44 t169 0).f2.f13)) ∧ w'.cell? ⟨ad180.block, ad180.off + 16, none⟩ = some (.int .u8 ((rd_T44 t169 0).f2.f14)) ∧ w'.cell? ⟨ad180.block, ad180.off + 17, none⟩ = some (.int .u8 ((rd_T44 t169 0).f2.f15))) (ds := []) #[false, false, false, false, false, false, false, false, false, false, false, false, false, false] (by kernel_rfl) rfl rfl ⟨(blk_cell BK162.out 0).trans rfl, (blk_cell BK162.out 1).trans rfl, (blk_cell BK162.out 2).trans rfl, (blk_cell BK162.out 3).trans rfl, (blk_cell BK162.out 4).trans rfl, (blk_cell BK162.out 5).trans rfl, hx180_0, hx180_1, hx180_2, hx180_3, hx180_4, hx180_5, hx180_6, hx180_7, hx180_8, hx180_9, hx180_10, hx180_11, hx180_12, hx180_13, hx180_14, hx180_15, hx180_16, hx180_17⟩ (fun hHeld => ?_); refine with_tabW spec_Play.tab6 spec_Play.bits6 (fun HT_ HW_ => ?_)
      generalize wc.drew = w43 at HO_5 HO_163005 BK162 BK163 HB hx180_0 hx180_1 hx180_10 hx180_11 hx180_12 hx180_13 hx180_14 hx180_15 hx180_16 hx180_17 hx180_2 hx180_3 hx180_4 hx180_5 hx180_6 hx180_7 hx180_8 hx180_9 hHeld ⊢
      refine pure_ (i := 0) (N := some 41) (v := ?_) (a' := ?_) #[true, false, false, false, false, false, false, false, false, false, false, false, false, false] rfl rfl (any_of HT_.out (by kernel_rfl)) (fun _ _ _ h => h) (Or.inl ⟨by rfl, ?_⟩) ?_ ?_
      rotate_left
      ·intro w'
       go_simp
       with_reducible rfl
      rotate_left
      ·simp only [Act.put, List.setIfInBounds_toArray, List.set_cons_zero, List.set_cons_succ, i64_w, i32_w]
       rfl
      refine pure_ (i := 2) (N := some 43) (v := ?_) (a' := ?_) #[true, false, true, false, false, false, false, false, false, false, false, false, false, false] rfl rfl (any_of HT_.out (by kernel_rfl)) (fun _ _ _ h => h) (Or.inl ⟨by rfl, ?_⟩) ?_ ?_
      rotate_left
      ·intro w'
       go_simp
       with_reducible rfl
      rotate_left
      ·simp only [Act.put, List.setIfInBounds_toArray, List.set_cons_zero, List.set_cons_succ, i64_w, i32_w]
       rfl
      refine take_ (i := 1) (N := some 42) (v := ?_) (a' := ?_) #[true, true, true, false, false, false, false, false, false, false, false, false, false, false] rfl rfl (take_ofW HT_.out HW_.out (by kernel_rfl)) (fun _ _ _ h => h) (Or.inl ⟨by rfl, ?_⟩) hHeld ?_ ?_
      rotate_left
      ·rintro w' ⟨s0, s1, s2, s3, s4, s5, s6, s7, s8, s9, s10, s11, s12, s13, s14, s15, s16, s17, s18, s19, s20, s21, s22, s23⟩
       go_simp
       with_reducible rfl
      rotate_left
      ·simp only [Act.put, List.setIfInBounds_toArray, List.set_cons_zero, List.set_cons_succ, i64_w, i32_w]
       rfl
      refine take_ (i := 3) (N := some 44) (v := ?_) (a' := ?_) #[true, true, true, true, false, false, false, false, false, false, false, false, false, false] rfl rfl (take_ofW HT_.out HW_.out (by kernel_rfl)) (fun _ _ _ h => h) (Or.inl ⟨by rfl, ?_⟩) hHeld ?_ ?_
      rotate_left
      ·rintro w' ⟨s0, s1, s2, s3, s4, s5, s6, s7, s8, s9, s10, s11, s12, s13, s14, s15, s16, s17, s18, s19, s20, s21, s22, s23⟩
       go_simp
       with_reducible rfl
      rotate_left
      ·simp only [Act.put, List.setIfInBounds_toArray, List.set_cons_zero, List.set_cons_succ, i64_w, i32_w]
       rfl
      refine pure_ (i := 4) (N := some 45) (v := ?_) (a' := ?_) #[true, true, true, true, true, false, false, false, false, false, false, false, false, false] rfl rfl (any_of HT_.out (by kernel_rfl)) (fun _ _ _ h => h) (Or.inl ⟨by rfl, ?_⟩) ?_ ?_
      rotate_left
      ·intro w'
       go_simp
       with_reducible rfl
      rotate_left
      ·simp only [Act.put, List.setIfInBounds_toArray, List.set_cons_zero, List.set_cons_succ, i64_w, i32_w]
       rfl
      refine pure_ (i := 5) (N := some 46) (v := ?_) (a' := ?_) #[true, true, true, true, true, true, false, false, false, false, false, false, false, false] rfl rfl (any_of HT_.out (by kernel_rfl)) (fun _ _ _ h => h) (Or.inl ⟨by rfl, ?_⟩) ?_ ?_
      rotate_left
      ·intro w'
       go_simp
       with_reducible rfl
      rotate_left
      ·simp only [Act.put, List.setIfInBounds_toArray, List.set_cons_zero, List.set_cons_succ, i64_w, i32_w]
       rfl
      refine take_ (i := 6) (N := some 47) (v := ?_) (a' := ?_) #[true, true, true, true, true, true, true, false, false, false, false, false, false, false] rfl rfl (take_ofW HT_.out HW_.out (by kernel_rfl)) (fun _ _ _ h => h) (Or.inl ⟨by rfl, ?_⟩) hHeld ?_ ?_
      rotate_left
      ·rintro w' ⟨s0, s1, s2, s3, s4, s5, s6, s7, s8, s9, s10, s11, s12, s13, s14, s15, s16, s17, s18, s19, s20, s21, s22, s23⟩
       go_simp
       with_reducible rfl
      rotate_left
      ·simp only [Act.put, List.setIfInBounds_toArray, List.set_cons_zero, List.set_cons_succ, i64_w, i32_w]
       rfl
      refine one_ (i := 7) (N := some 48) #[true, true, true, true, true, true, true, true, false, false, false, false, false, false] rfl rfl (one_of HT_.out (by kernel_rfl)) (by decide) (fun K hK => ?_)
      refine goes_ Try.func59 (by kernel_rfl) rfl #[.int .i64 t168, .agg #[.int .u8 ((rd_T44 t169 0).f2.f0), .int .u8 ((rd_T44 t169 0).f2.f1), .int .u8 ((rd_T44 t169 0).f2.f2), .int .u8 ((rd_T44 t169 0).f2.f3), .int .u8 ((rd_T44 t169 0).f2.f4), .int .u8 ((rd_T44 t169 0).f2.f5), .int .u8 ((rd_T44 t169 0).f2.f6), .int .u8 ((rd_T44 t169 0).f2.f7), .int .u8 ((rd_T44 t169 0).f2.f8), .int .u8 ((rd_T44 t169 0).f2.f9), .int .u8 ((rd_T44 t169 0).f2.f10), .int .u8 ((rd_T44 t169 0).f2.f11), .int .u8 ((rd_T44 t169 0).f2.f12), .int .u8 ((rd_T44 t169 0).f2.f13), .int .u8 ((rd_T44 t169 0).f2.f14), .int .u8 ((rd_T44 t169 0).f2.f15)]] (by rfl) rfl rfl (by (try simp only [List.map_toArray, List.map_cons, List.map_nil]); first | done | rfl | (simp only [List.length_drop, List.length_take]; rfl)) ?_
      with_reducible refine (spec_OfFrame.calls kj30 t168 ((rd_T44 t169 0).f2.f0) ((rd_T44 t169 0).f2.f1) ((rd_T44 t169 0).f2.f2) ((rd_T44 t169 0).f2.f3) ((rd_T44 t169 0).f2.f4) ((rd_T44 t169 0).f2.f5) ((rd_T44 t169 0).f2.f6) ((rd_T44 t169 0).f2.f7) ((rd_T44 t169 0).f2.f8) ((rd_T44 t169 0).f2.f9) ((rd_T44 t169 0).f2.f10) ((rd_T44 t169 0).f2.f11) ((rd_T44 t169 0).f2.f12) ((rd_T44 t169 0).f2.f13) ((rd_T44 t169 0).f2.f14) ((rd_T44 t169 0).f2.f15) t181 t184 t185 t186 _ A41.out).mono ?_
      rintro e w44 ⟨v182, rfl, ho0, hb⟩
      have HS6_ := Far.cb_ hb (hHeld.2.2.2.2.2.2.1); have HS7_ := Far.cb_ hb (hHeld.2.2.2.2.2.2.2.1); have HS8_ := Far.cb_ hb (hHeld.2.2.2.2.2.2.2.2.1); have HS9_ := Far.cb_ hb (hHeld.2.2.2.2.2.2.2.2.2.1); have HS10_ := Far.cb_ hb (hHeld.2.2.2.2.2.2.2.2.2.2.1); have HS11_ := Far.cb_ hb (hHeld.2.2.2.2.2.2.2.2.2.2.2.1); have HS12_ := Far.cb_ hb (hHeld.2.2.2.2.2.2.2.2.2.2.2.2.1); have HS13_ := Far.cb_ hb (hHeld.2.2.2.2.2.2.2.2.2.2.2.2.2.1); have HS14_ := Far.cb_ hb (hHeld.2.2.2.2.2.2.2.2.2.2.2.2.2.2.1); have HS15_ := Far.cb_ hb (hHeld.2.2.2.2.2.2.2.2.2.2.2.2.2.2.2.1); have HS16_ := Far.cb_ hb (hHeld.2.2.2.2.2.2.2.2.2.2.2.2.2.2.2.2.1); have HS17_ := Far.cb_ hb (hHeld.2.2.2.2.2.2.2.2.2.2.2.2.2.2.2.2.2.1); have HS18_ := Far.cb_ hb (hHeld.2.2.2.2.2.2.2.2.2.2.2.2.2.2.2.2.2.2.1); have HS19_ := Far.cb_ hb (hHeld.2.2.2.2.2.2.2.2.2.2.2.2.2.2.2.2.2.2.2.1); have HS20_ := Far.cb_ hb (hHeld.2.2.2.2.2.2.2.2.2.2.2.2.2.2.2.2.2.2.2.2.1); have HS21_ := Far.cb_ hb (hHeld.2.2.2.2.2.2.2.2.2.2.2.2.2.2.2.2.2.2.2.2.2.1); have HS22_ := Far.cb_ hb (hHeld.2.2.2.2.2.2.2.2.2.2.2.2.2.2.2.2.2.2.2.2.2.2.1); have HS23_ := Far.cb_ hb (hHeld.2.2.2.2.2.2.2.2.2.2.2.2.2.2.2.2.2.2.2.2.2.2.2)
      refine ⟨_, rfl, ?_⟩
      have n0_ := am_ (Kd.R_elder' (pR_ HO_5.out) (Kd.R_base ho0) hb)
      have n1_ := am_ (Kd.Q_below (by (with_reducible repeat (first | apply Kd.Q_alloc | apply Kd.Q_drewN | apply Kd.Q_drew)); exact HO_163005.out) hb)
      have n2_ := am_ (Kd.R_lower (Kd.R_new' ho0 (Kd.R_lt (pR_ HO_5.out))) (below_size belowNow))
      have n3_ := am_ (blkStep (g := gb162) hb); have n4_ := am_ (blkStep (g := gb163) hb); have n5_ := am_ (below_step belowNow hb); clear HO_5 HO_163005 BK162 BK163 HB; have HO_5 := n0_; have HO_163005 := n1_; have HO183 := n2_; have BK162 := n3_; have BK163 := n4_; have HB := n5_; clear n0_ n1_ n2_ n3_ n4_ n5_; (try clear hb); (try clear hb2); (try clear hk); (try clear hi); (try clear ho0)
      refine hK.out _ _ ⟨(blk_cell BK162.out 0).trans rfl, (blk_cell BK162.out 1).trans rfl, (blk_cell BK162.out 2).trans rfl, (blk_cell BK162.out 3).trans rfl, (blk_cell BK162.out 4).trans rfl, (blk_cell BK162.out 5).trans rfl, HS6_, HS7_, HS8_, HS9_, HS10_, HS11_, HS12_, HS13_, HS14_, HS15_, HS16_, HS17_, HS18_, HS19_, HS20_, HS21_, HS22_, HS23_⟩ (fun hHeld => ?_)
      clear hK K
      refine norm_ (a' := ?_) ?_ ?_
      rotate_left
      ·show Act.put _ (some 48) _ = _
       simp only [Act.put, List.setIfInBounds_toArray, List.set_cons_zero, List.set_cons_succ, i64_w, i32_w]
       rfl
      refine pure_ (i := 8) (N := some 40) (v := ?_) (a' := ?_) #[true, true, true, true, true, true, true, true, true, false, false, false, false, false] rfl rfl (any_of HT_.out (by kernel_rfl)) (fun _ _ _ h => h) (Or.inl ⟨by rfl, ?_⟩) ?_ ?_
      rotate_left
      ·intro w'
       go_simp
       with_reducible rfl
      rotate_left
      ·simp only [Act.put, List.setIfInBounds_toArray, List.set_cons_zero, List.set_cons_succ, i64_w, i32_w]
       rfl
      refine pure_ (i := 9) (N := some 49) (v := ?_) (a' := ?_) #[true, true, true, true, true, true, true, true, true, true, false, false, false, false] rfl rfl (any_of HT_.out (by kernel_rfl)) (fun _ _ _ h => h) (Or.inl ⟨by rfl, ?_⟩) ?_ ?_
      rotate_left
      ·intro w'
       go_simp
       with_reducible rfl
      rotate_left
      ·simp only [Act.put, List.setIfInBounds_toArray, List.set_cons_zero, List.set_cons_succ, i64_w, i32_w]
       rfl
      refine pure_ (i := 10) (N := some 50) (v := ?_) (a' := ?_) #[true, true, true, true, true, true, true, true, true, true, true, false, false, false] rfl rfl (any_of HT_.out (by kernel_rfl)) (fun _ _ _ h => h) (Or.inl ⟨by rfl, ?_⟩) ?_ ?_
      rotate_left
      ·intro w'
       go_simp
       with_reducible rfl
      rotate_left
      ·simp only [Act.put, List.setIfInBounds_toArray, List.set_cons_zero, List.set_cons_succ, i64_w, i32_w]
       rfl
      refine pure_ (i := 11) (N := some 51) (v := ?_) (a' := ?_) #[true, true, true, true, true, true, true, true, true, true, true, true, false, false] rfl rfl (any_of HT_.out (by kernel_rfl)) (fun _ _ _ h => h) (Or.inl ⟨by rfl, ?_⟩) ?_ ?_
      rotate_left
      ·intro w'
       go_simp
       with_reducible rfl
      rotate_left
      ·simp only [Act.put, List.setIfInBounds_toArray, List.set_cons_zero, List.set_cons_succ, i64_w, i32_w]
       rfl
      refine pure_ (i := 12) (N := some 5) (v := ?_) (a' := ?_) #[true, true, true, true, true, true, true, true, true, true, true, true, true, false] rfl rfl (any_of HT_.out (by kernel_rfl)) (fun _ _ _ h => h) (Or.inl ⟨by rfl, ?_⟩) ?_ ?_
      rotate_left
      ·intro w'
       go_simp
       with_reducible rfl
      rotate_left
      ·simp only [Act.put, List.setIfInBounds_toArray, List.set_cons_zero, List.set_cons_succ, i64_w, i32_w]
       rfl
      refine pure_ (i := 13) (N := some 6) (v := ?_) (a' := ?_) #[true, true, true, true, true, true, true, true, true, true, true, true, true, true] rfl rfl (any_of HT_.out (by kernel_rfl)) (fun _ _ _ h => h) (Or.inl ⟨by rfl, ?_⟩) ?_ ?_
      rotate_left
      ·intro w'
       go_simp
       with_reducible rfl
      rotate_left
      ·simp only [Act.put, List.setIfInBounds_toArray, List.set_cons_zero, List.set_cons_succ, i64_w, i32_w]
       rfl
      refine done_ (done_of HT_.out (by kernel_rfl)) ?_
      have ⟨hnb45, hnc45⟩ := nn6_ NB162_163.out; have hcz46_0 := cz6_ BK162.out 0 rfl; have hcz46_1 := cz6_ BK162.out 1 rfl; have hcz46_2 := cz6_ BK162.out 2 rfl; have hcz46_3 := cz6_ BK162.out 3 rfl; have hcz46_4 := cz6_ BK162.out 4 rfl; have hcz46_5 := cz6_ BK162.out 5 rfl; have hfz46_0 := blk_frozen BK162.out 0; have hfz46_1 := blk_frozen BK162.out 1; have hfz46_2 := blk_frozen BK162.out 2; have hfz46_3 := blk_frozen BK162.out 3; have hfz46_4 := blk_frozen BK162.out 4; have hfz46_5 := blk_frozen BK162.out 5
      have q47 : (1 : Int) ≤ ((t169.length : Int) : Int) := of_decide_eq_true (by first | (with_reducible assumption) | assumption)
      obtain ⟨i047, hi047, _, hsz47, _⟩ := info_parts info44
      have hcut47 := cut_from (P := Try.prog) 26 44 .i64 Try.underlying26 hi047 18 hsz47 (some ad180) t169.length co10 1 (by omega) q47
      have hr47 := Kd.Q_drop (k := (1 : Int).toNat) HO_163005.out (by omega)
      obtain ⟨A47, hA47⟩ : ∃ A1, A1 = (if co10 = (1 : Int).toNat then (some ad180) else ((some ad180) : Option Addr).map (·.add ((1 : Int).toNat * 18))) := ⟨_, rfl⟩; obtain ⟨c47, hc47⟩ : ∃ c1, c1 = co10 - (1 : Int).toNat := ⟨_, rfl⟩
      have hy47 : y187.length = t169.length - (1 : Int).toNat := (by rw [Ny187.out, List.length_drop])
      rw [← Ny187.out] at hr47; rw [← hy47, ← hA47, ← hc47] at hcut47
      replace hr47 : Kd.Q k44 44 w44 w.heap.size (fun _ => True) (.slice A47 y187.length c47) y187 := (by rw [hA47, hc47, hy47]; exact hr47)
      have HE47 : Aside0 ((Value.slice A47 y187.length c47).ownBlock = (.slice (some ad180) t169.length co10 : Value).ownBlock) := ⟨by rw [hA47]; split <;> (cases ((some ad180) : Option Addr) <;> rfl)⟩
      clear hy47 hi047 hsz47 HO_163005 hA47 hc47; have HO189 := am_ hr47; clear hr47; replace q47 := eq_true q47
      try go_wp2
      go_meet
      case rel => exact ⟨_, (t181), (t186), (y187), (.slice A47 y187.length c47), (by first | rfl | (simp; done) | (simp [*]; done)), H', ⟨by have := HJ2.out; have := HJ30.out; first | omega | exact Nat.le_refl _⟩, ⟨by (with_reducible repeat (first | apply Kd.R_alloc | apply Kd.R_drewN | apply Kd.R_drew)); exact Kd.R_mono (Kd.R_far (p := ⟨gb162, 5, none⟩) (Kd.R_types HO183.out BK162.out (by decide)) (fun _ hk => hk.2) (.slice A47 y187.length c47)) (fun _ hk => trivial)⟩, ⟨by (with_reducible repeat (first | apply Kd.Q_alloc | apply Kd.Q_drewN | apply Kd.Q_drew)); exact Kd.Q_mono (Kd.Q_far (p := ⟨gb162, 5, none⟩) (Kd.Q_types HO189.out BK162.out (by decide)) (fun _ hk => hk.2) (.slice A47 y187.length c47)) (fun _ hk => trivial)⟩, ⟨by (with_reducible repeat (first | refine blk_drewN ?_ _ | refine blk_drew ?_ | refine blk_alloc ?_ _)); refine blk_put (cs := #[.int .i64 t164, .int .i64 t165, .int .i64 t166, .int .i64 t167, .int .i64 t168, .slice (some ad180) t169.length co10]) ?_ 5 _ rfl; (with_reducible repeat (first | refine blk_drewN ?_ _ | refine blk_drew ?_ | refine blk_alloc ?_ _)); exact BK162.out⟩, ⟨blkFars⟩, ⟨belowNow⟩⟩
     case rest =>
      clear HC38; (try clear c1); (try clear p1); (try clear q1); (try clear hx1); (try clear qi1); (try clear c2); (try clear p2); (try clear c3); (try clear c4); (try clear q4); (try clear c5); (try clear c6); (try clear c12); (try clear c13); (try clear c13b0); (try clear c13b1); (try clear c14); (try clear p17); (try clear q17); (try clear hx17); (try clear qi17); (try clear c18); (try clear p18); (try clear q18); (try clear hx18); (try clear qi18); (try clear c22); (try clear c25); (try clear c26); (try clear c29); (try clear c34); (try clear c34b0); (try clear c34b1); (try clear c35); (try clear c35b0); (try clear c35b1); (try clear c39); (try clear c40); (try clear c40b0); (try clear c40b1); (try clear c42); (try clear c42b0); (try clear c42b1); (try clear c45); (try clear c47); (try clear q47); (try clear hcz15_0 hcz15_1 hcz15_2 hcz15_3 hcz15_4 hcz15_5); (try clear hcz17_0 hcz17_1 hcz17_2 hcz17_3 hcz17_4 hcz17_5); (try clear hcz19_0 hcz19_1 hcz19_2 hcz19_3 hcz19_4 hcz19_5); (try clear hcz21_0 hcz21_1 hcz21_2 hcz21_3 hcz21_4 hcz21_5); (try clear hcz23_0 hcz23_1 hcz23_2 hcz23_3 hcz23_4 hcz23_5); (try clear hcz27_0 hcz27_1 hcz27_2 hcz27_3 hcz27_4 hcz27_5); (try clear hcz30_0 hcz30_1 hcz30_2 hcz30_3 hcz30_4 hcz30_5); (try clear hcz46_0 hcz46_1 hcz46_2 hcz46_3 hcz46_4 hcz46_5); (try clear hcz7_0 hcz7_1 hcz7_2 hcz7_3 hcz7_4 hcz7_5); (try clear hcz9_0 hcz9_1 hcz9_2 hcz9_3 hcz9_4 hcz9_5); (try clear hfz15_0 hfz15_1 hfz15_2 hfz15_3 hfz15_4 hfz15_5); (try clear hfz17_0 hfz17_1 hfz17_2 hfz17_3 hfz17_4 hfz17_5); (try clear hfz19_0 hfz19_1 hfz19_2 hfz19_3 hfz19_4 hfz19_5); (try clear hfz21_0 hfz21_1 hfz21_2 hfz21_3 hfz21_4 hfz21_5); (try clear hfz23_0 hfz23_1 hfz23_2 hfz23_3 hfz23_4 hfz23_5); (try clear hfz27_0 hfz27_1 hfz27_2 hfz27_3 hfz27_4 hfz27_5); (try clear hfz30_0 hfz30_1 hfz30_2 hfz30_3 hfz30_4 hfz30_5); (try clear hfz46_0 hfz46_1 hfz46_2 hfz46_3 hfz46_4 hfz46_5); (try clear hfz7_0 hfz7_1 hfz7_2 hfz7_3 hfz7_4 hfz7_5); (try clear hfz9_0 hfz9_1 hfz9_2 hfz9_3 hfz9_4 hfz9_5); (try clear hx179_0); (try clear hx179_1); (try clear hx179_10); (try clear hx179_11); (try clear hx179_12); (try clear hx179_13); (try clear hx179_14); (try clear hx179_15); (try clear hx179_16); (try clear hx179_17); (try clear hx179_2); (try clear hx179_3); (try clear hx179_4); (try clear hx179_5); (try clear hx179_6); (try clear hx179_7); (try clear hx179_8); (try clear hx179_9); (try clear hx180_0); (try clear hx180_1); (try clear hx180_10); (try clear hx180_11); (try clear hx180_12); (try clear hx180_13); (try clear hx180_14); (try clear hx180_15); (try clear hx180_16); (try clear hx180_17); (try clear hx180_2); (try clear hx180_3); (try clear hx180_4); (try clear hx180_5); (try clear hx180_6); (try clear hx180_7); (try clear hx180_8); (try clear hx180_9); (try clear p1); (try clear p17); (try clear p179); (try clear p180); (try clear p2); (try clear q1); (try clear q17); (try clear q179); (try clear q180); (try clear q47); obtain ⟨kq, x5_37, x6_37, x163005_37, u163005, rfl, HA, HJ37, HO_5, HO_163005, BK162, BK163, HB⟩ := hcut
      cases kq with
      | zero => exact absurd HA.out (by simp [spec_Play.j2])
      | succ kj37 =>
       have H := HA.out; clear HA; simp only [spec_Play.j2] at H
       by_cases c48 : x6_37 = true
       case pos =>
        subst c48
        have H1 : (if 0 ≤ (wrap64 ((x5_37.length : Int) - 1)) then (if (wrap64 ((x5_37.length : Int) - 1)) < (x5_37.length : Int) then (some (wrap64 (t164 + 1), t165, t166, t167, rd x5_37 (wrap64 ((x5_37.length : Int) - 1)), x163005_37, x5_37, true)) else (none)) else (none)) = some (r1, r2, r3, r4, r5, r6, r7, r8) := by rw [if_pos rfl] at H; exact H
        clear H; have H := H1; clear H1; obtain ⟨ji49, hji49⟩ : ∃ j_ : Int, (wrap64 ((x5_37.length : Int) - 1)) = j_ := ⟨_, rfl⟩
        replace H : (if 0 ≤ (ji49) then (if (ji49) < (x5_37.length : Int) then (some (wrap64 (t164 + 1), t165, t166, t167, rd x5_37 (ji49), x163005_37, x5_37, true)) else (none)) else (none)) = some (r1, r2, r3, r4, r5, r6, r7, r8) := by first | (rw [hji49] at H; exact H) | (simp only [hji49] at H ⊢; exact H)
        have hji49w : (IntKind.i64.wrap ((x5_37.length : Int) - 1)) = ji49 := (i64_w _).trans hji49
        by_cases c50 : 0 ≤ (ji49)
        case neg =>
         rw [if_neg c50] at H
         exact absurd H (by simp)
        rw [if_pos c50] at H; have c50b0 : decide (0 ≤ (ji49)) = true := decide_eq_true c50; clear c50
        by_cases c51 : (ji49) < (x5_37.length : Int)
        case neg =>
         rw [if_neg c51] at H
         exact absurd H (by simp)
        rw [if_pos c51] at H; have c51b0 : decide ((ji49) < (x5_37.length : Int)) = true := decide_eq_true c51; clear c51; simp only [Option.some.injEq, Prod.mk.injEq] at H; obtain ⟨rfl, rfl, rfl, rfl, rfl, rfl, rfl, rfl⟩ := H; have ⟨hnb52, hnc52⟩ := nn6_ NB162_163.out; have hcz53_0 := cz6_ BK162.out 0 rfl; have hcz53_1 := cz6_ BK162.out 1 rfl; have hcz53_2 := cz6_ BK162.out 2 rfl; have hcz53_3 := cz6_ BK162.out 3 rfl; have hcz53_4 := cz6_ BK162.out 4 rfl; have hcz53_5 := cz6_ BK162.out 5 rfl; have hfz53_0 := blk_frozen BK162.out 0; have hfz53_1 := blk_frozen BK162.out 1; have hfz53_2 := blk_frozen BK162.out 2; have hfz53_3 := blk_frozen BK162.out 3; have hfz53_4 := blk_frozen BK162.out 4; have hfz53_5 := blk_frozen BK162.out 5; obtain ⟨Ao54, co54, eo54⟩ := Kd.R_slice HO_5.out; subst eo54
        have p190 : 0 ≤ ((ji49) : Int) := of_decide_eq_true (by first | (with_reducible assumption) | assumption)
        have q190 : (ji49) < (x5_37.length : Int) := of_decide_eq_true (by first | (with_reducible assumption) | assumption)
        obtain ⟨ad190, e190, hx190_0⟩ := Kd.at_int (Kd.R_reads' HO_5.out).2.2 (ji49) p190 q190
        cases e190
        have hn190_0 : ad190.block ≠ gb162 := Kd.own_blk (Kd.R_ne HO_5.out BK162.out (by decide))
        replace hx190_0 := (cell_far (p := ⟨gb162, 0, none⟩) (by first | (rw [add_block]; exact hn190_0) | (show (Addr.add _ _).block ≠ _; rw [add_block]; exact hn190_0) | exact hn190_0) (.int .i64 (wrap64 (t164 + 1)))).trans hx190_0
        clear hn190_0; replace p190 := eq_true p190; replace q190 := eq_true q190; have hcz55_0 := cz6_ BK163.out 0 rfl; have hcz55_1 := cz6_ BK163.out 1 rfl; have hcz55_2 := cz6_ BK163.out 2 rfl; have hcz55_3 := cz6_ BK163.out 3 rfl; have hcz55_4 := cz6_ BK163.out 4 rfl; have hcz55_5 := cz6_ BK163.out 5 rfl; have hfz55_0 := blk_frozen BK163.out 0; have hfz55_1 := blk_frozen BK163.out 1; have hfz55_2 := blk_frozen BK163.out 2; have hfz55_3 := blk_frozen BK163.out 3; have hfz55_4 := blk_frozen BK163.out 4; have hfz55_5 := blk_frozen BK163.out 5; obtain ⟨Ao56, co56, eo56, _⟩ := Kd.Q_slice HO_163005.out; subst eo56
        go_wp2
        refine bodyPost_ret (results_ctt rfl _ _ gb163 35 #[.int .i64 (wrap64 (t164 + 1)), .int .i64 t165, .int .i64 t166, .int .i64 t167, .int .i64 (rd x5_37 (ji49)), .slice Ao56 x163005_37.length co56] (0, 0) _ rfl (by (with_reducible repeat (first | refine blk_drewN ?_ _ | refine blk_drew ?_ | refine blk_alloc ?_ _)); refine Far.put6_ #[.int .i64 0, .int .i64 0, .int .i64 0, .int .i64 0, .int .i64 0, .slice none 0 0] rfl ?_; (with_reducible repeat (first | refine blk_drewN ?_ _ | refine blk_drew ?_ | refine blk_alloc ?_ _)); refine blk_far ?_ NB163_162.out _; (with_reducible repeat (first | refine blk_drewN ?_ _ | refine blk_drew ?_ | refine blk_alloc ?_ _)); refine blk_far ?_ NB163_162.out _; (with_reducible repeat (first | refine blk_drewN ?_ _ | refine blk_drew ?_ | refine blk_alloc ?_ _)); exact BK163.out) Try.underlying35 rfl (by kernel_rfl)) rfl ?_
        exact ⟨_, _, by first | rfl | (simp [errW_none, errW_some] <;> rfl) | (simp only [← hji49]; first | rfl | (simp [errW_none, errW_some] <;> rfl)) | (simp [*, errW_none, errW_some] <;> rfl), by (with_reducible repeat (first | apply Kd.Q_alloc | apply Kd.Q_drewN | apply Kd.Q_drew)); exact Kd.Q_mono (Far.qfar6_ (fun _ hk => hk.2) (Far.qfar2_ (fun _ hk => hk.1.2) (Kd.Q_types (Kd.Q_types HO_163005.out BK162.out (by decide)) BK163.out (by decide)))) (fun _ hk => trivial), by (with_reducible repeat (first | apply Kd.R_alloc | apply Kd.R_drewN | apply Kd.R_drew)); exact Kd.R_mono (Far.rfar6_ (fun _ hk => hk.2) (Far.rfar2_ (fun _ hk => hk.1.2) (Kd.R_types (Kd.R_types HO_5.out BK162.out (by decide)) BK163.out (by decide)))) (fun _ hk => trivial), belowNow⟩
       replace c48 := Bool.eq_false_iff.mpr c48; subst c48
       have H1 : (spec_Play.l0 kj37 (([] : List Int)) 1 t164 t165 t166 t167 t168 x163005_37) = some (r1, r2, r3, r4, r5, r6, r7, r8) := by rw [if_neg (show ¬ (false = true) by decide)] at H; exact H
       clear H; have H := H1; clear H1; obtain ⟨y191, hy191⟩ : ∃ y_ : List Int, y_ = (([] : List Int)) := ⟨_, rfl⟩
       replace H : (spec_Play.l0 kj37 y191 1 t164 t165 t166 t167 t168 x163005_37) = some (r1, r2, r3, r4, r5, r6, r7, r8) := by first | (rw [hy191]; with_reducible exact H) | (have H2_ := (Option.bind_some _ _).symm.trans H; rw [hy191]; with_reducible exact H2_) | (have H2_ := (Option.bind_some _ _).symm.trans H; with_reducible exact H2_) | with_reducible exact H | (rw [hy191]; exact H) | exact H
       have Ny191 := am_ hy191; clear hy191
       have H' := am_ H
       clear H
       go_wp2_with (first | ((with_reducible refine gate_dst (N := 58) rfl ?_); refine Kd.R_lit (Kd.int .i64) _ 3 ?hg (N := 58) ?hd (xs := ([] : List Int)) (inner := []) (ok := fun _ => True) (okp := fun _ => True) ?hr ?hp (fun _ hk => hk) trivial (Below.refl _ _) (Nat.le_refl _) (by simp) ?_; (case hd => rfl); (case hg => rfl); (case hr => first | (go_simp; done) | (go_simp; rfl)); (case hp => exact (Reps.none _ _)); intro v192 w57 ho58 hb hg_ hnew_; clear hg_ hnew_; (first | rw [← Ny191.out] at ho58 | (simp only [Int.reduceToNat] at ho58; rw [← Ny191.out] at ho58)); have n0_ := am_ (Kd.R_elder' (pR_ HO_5.out) (Kd.R_base ho58) hb); have n1_ := am_ (Kd.Q_below (by (with_reducible repeat (first | apply Kd.Q_alloc | apply Kd.Q_drewN | apply Kd.Q_drew)); exact HO_163005.out) hb); have n2_ := am_ (Kd.R_lower (Kd.R_new' ho58 (Kd.R_lt (pR_ HO_5.out))) (below_size belowNow)); have n3_ := am_ (blkStep (g := gb162) hb); have n4_ := am_ (blkStep (g := gb163) hb); have n5_ := am_ (below_step belowNow hb); clear HO_5; clear HO_163005; clear BK162; clear BK163; clear HB; have HO_5 := n0_; have HO_163005 := n1_; have HO193 := n2_; have BK162 := n3_; have BK163 := n4_; have HB := n5_; clear n0_ n1_ n2_ n3_ n4_ n5_; clear hb ho58))
       go_loopg [5, 7] kj37 (fun kq v5 v7 w' => ∃ (x5_4 : List Int) (x7_4 : Int), v7 = .int .i64 x7_4 ∧ Aside0 (spec_Play.l0 kq x5_4 x7_4 t164 t165 t166 t167 t168 x163005_37 = some (r1, r2, r3, r4, r5, r6, r7, r8)) ∧ Aside0 (kq ≤ kj37) ∧ Aside0 (Kd.R (Kd.int .i64) 3 w' w.heap.size (fun _ => True) v5 x5_4) ∧ Aside0 (Kd.Q k44 44 w' w.heap.size (fun _ => True) u163005 x163005_37) ∧ Aside0 (w'.heap[gb162]? = some (.cells #[.int .i64 t164, .int .i64 t165, .int .i64 t166, .int .i64 t167, .int .i64 t168, u163005] 35 (0, 0))) ∧ Aside0 (w'.heap[gb163]? = some (.cells #[.int .i64 0, .int .i64 0, .int .i64 0, .int .i64 0, .int .i64 0, (.slice none 0 0)] 35 (0, 0))) ∧ Aside0 (Below w.heap.size w w'))
       case atStart => exact ⟨(y191), (1), (by first | rfl | (simp; done) | (simp [*]; done)), H', ⟨Nat.le_refl _⟩, ⟨by (with_reducible repeat (first | apply Kd.R_alloc | apply Kd.R_drewN | apply Kd.R_drew)); exact Kd.R_mono HO193.out (fun _ hk => trivial)⟩, ⟨by (with_reducible repeat (first | apply Kd.Q_alloc | apply Kd.Q_drewN | apply Kd.Q_drew)); exact HO_163005.out⟩, ⟨pB_ BK162.out⟩, ⟨pB_ BK163.out⟩, ⟨belowNow⟩⟩
       case round =>
        clear H'
        (try clear c1); (try clear p1); (try clear q1); (try clear hx1); (try clear qi1); (try clear c2); (try clear p2); (try clear c3); (try clear c4); (try clear q4); (try clear c5); (try clear c6); (try clear p6); (try clear c12); (try clear c13); (try clear c13b0); (try clear c13b1); (try clear c14); (try clear p17); (try clear q17); (try clear hx17); (try clear qi17); (try clear c18); (try clear p18); (try clear q18); (try clear hx18); (try clear qi18); (try clear p19); (try clear q19); (try clear hx19); (try clear c22); (try clear c25); (try clear c26); (try clear c29); (try clear c34); (try clear c34b0); (try clear c34b1); (try clear c35); (try clear c35b0); (try clear c35b1); (try clear c39); (try clear c40); (try clear c40b0); (try clear c40b1); (try clear c42); (try clear c42b0); (try clear c42b1); (try clear c45); (try clear c47); (try clear q47); (try clear c48); (try clear c50); (try clear c50b0); (try clear c51); (try clear c51b0); (try clear c52); (try clear hcz15_0 hcz15_1 hcz15_2 hcz15_3 hcz15_4 hcz15_5); (try clear hcz17_0 hcz17_1 hcz17_2 hcz17_3 hcz17_4 hcz17_5); (try clear hcz19_0 hcz19_1 hcz19_2 hcz19_3 hcz19_4 hcz19_5); (try clear hcz21_0 hcz21_1 hcz21_2 hcz21_3 hcz21_4 hcz21_5); (try clear hcz23_0 hcz23_1 hcz23_2 hcz23_3 hcz23_4 hcz23_5); (try clear hcz27_0 hcz27_1 hcz27_2 hcz27_3 hcz27_4 hcz27_5); (try clear hcz30_0 hcz30_1 hcz30_2 hcz30_3 hcz30_4 hcz30_5); (try clear hcz46_0 hcz46_1 hcz46_2 hcz46_3 hcz46_4 hcz46_5); (try clear hcz53_0 hcz53_1 hcz53_2 hcz53_3 hcz53_4 hcz53_5); (try clear hcz55_0 hcz55_1 hcz55_2 hcz55_3 hcz55_4 hcz55_5); (try clear hcz7_0 hcz7_1 hcz7_2 hcz7_3 hcz7_4 hcz7_5); (try clear hcz9_0 hcz9_1 hcz9_2 hcz9_3 hcz9_4 hcz9_5); (try clear hfz15_0 hfz15_1 hfz15_2 hfz15_3 hfz15_4 hfz15_5); (try clear hfz17_0 hfz17_1 hfz17_2 hfz17_3 hfz17_4 hfz17_5); (try clear hfz19_0 hfz19_1 hfz19_2 hfz19_3 hfz19_4 hfz19_5); (try clear hfz21_0 hfz21_1 hfz21_2 hfz21_3 hfz21_4 hfz21_5); (try clear hfz23_0 hfz23_1 hfz23_2 hfz23_3 hfz23_4 hfz23_5); (try clear hfz27_0 hfz27_1 hfz27_2 hfz27_3 hfz27_4 hfz27_5); (try clear hfz30_0 hfz30_1 hfz30_2 hfz30_3 hfz30_4 hfz30_5); (try clear hfz46_0 hfz46_1 hfz46_2 hfz46_3 hfz46_4 hfz46_5); (try clear hfz53_0 hfz53_1 hfz53_2 hfz53_3 hfz53_4 hfz53_5); (try clear hfz55_0 hfz55_1 hfz55_2 hfz55_3 hfz55_4 hfz55_5); (try clear hfz7_0 hfz7_1 hfz7_2 hfz7_3 hfz7_4 hfz7_5); (try clear hfz9_0 hfz9_1 hfz9_2 hfz9_3 hfz9_4 hfz9_5); (try clear hx179_0); (try clear hx179_1); (try clear hx179_10); (try clear hx179_11); (try clear hx179_12); (try clear hx179_13); (try clear hx179_14); (try clear hx179_15); (try clear hx179_16); (try clear hx179_17); (try clear hx179_2); (try clear hx179_3); (try clear hx179_4); (try clear hx179_5); (try clear hx179_6); (try clear hx179_7); (try clear hx179_8); (try clear hx179_9); (try clear hx180_0); (try clear hx180_1); (try clear hx180_10); (try clear hx180_11); (try clear hx180_12); (try clear hx180_13); (try clear hx180_14); (try clear hx180_15); (try clear hx180_16); (try clear hx180_17); (try clear hx180_2); (try clear hx180_3); (try clear hx180_4); (try clear hx180_5); (try clear hx180_6); (try clear hx180_7); (try clear hx180_8); (try clear hx180_9); (try clear hx190_0); (try clear p1); (try clear p17); (try clear p179); (try clear p18); (try clear p180); (try clear p190); (try clear p2); (try clear q1); (try clear q17); (try clear q179); (try clear q18); (try clear q180); (try clear q190); (try clear q4); (try clear q47); obtain ⟨x5_4, x7_4, rfl, HA, HK4, HO_5, HO_163005, BK162, BK163, HB⟩ := hrel
        cases gk with
        | zero => exact absurd HA.out (by simp [spec_Play.l0])
        | succ k4 =>
         have H := HA.out; clear HA; simp only [spec_Play.l0] at H
         by_cases c59 : x7_4 ≤ 30
         case pos =>
          rw [if_pos c59] at H; have c59b0 : decide (x7_4 ≤ 30) = true := decide_eq_true c59; clear c59
          by_cases c60 : x5_4.length < 17592186044416
          case neg =>
           rw [if_neg c60] at H
           exact absurd H (by simp)
          rw [if_pos c60] at H; have LMc60 := am_ c60; clear c60; obtain ⟨y194, hy194⟩ : ∃ y_ : List Int, y_ = (x5_4 ++ [wrap64 (Int.tdiv (wrap64 (t168 * (wrap64 (30 - x7_4)))) 30)]) := ⟨_, rfl⟩
          replace H : (spec_Play.l0 k4 y194 (wrap64 (x7_4 + 1)) t164 t165 t166 t167 t168 x163005_37) = some (r1, r2, r3, r4, r5, r6, r7, r8) := by first | (rw [hy194]; with_reducible exact H) | (have H2_ := (Option.bind_some _ _).symm.trans H; rw [hy194]; with_reducible exact H2_) | (have H2_ := (Option.bind_some _ _).symm.trans H; with_reducible exact H2_) | with_reducible exact H | (rw [hy194]; exact H) | exact H
          have Ny194 := am_ hy194; clear hy194
          have H' := am_ H
          clear H; have ⟨hnb61, hnc61⟩ := nn6_ NB162_163.out; have hcz62_0 := cz6_ BK162.out 0 rfl; have hcz62_1 := cz6_ BK162.out 1 rfl; have hcz62_2 := cz6_ BK162.out 2 rfl; have hcz62_3 := cz6_ BK162.out 3 rfl; have hcz62_4 := cz6_ BK162.out 4 rfl; have hcz62_5 := cz6_ BK162.out 5 rfl; have hfz62_0 := blk_frozen BK162.out 0; have hfz62_1 := blk_frozen BK162.out 1; have hfz62_2 := blk_frozen BK162.out 2; have hfz62_3 := blk_frozen BK162.out 3; have hfz62_4 := blk_frozen BK162.out 4; have hfz62_5 := blk_frozen BK162.out 5
          go_wp2_with (first | ((with_reducible refine gate_builtin (b := .append) (xs := #[.tmp 63, .tmp 70]) rfl ?_); at_builtin; refine Kd.R_append (Kd.int .i64) (w0 := w) w.heap.size rfl (.tmp 63) (.tmp 70) 48 3 (.int .i64 0) 8 rfl Try.underlying48 info3 rfl (by decide) (by omega) u5 x5_4 (wrap64 (Int.tdiv (wrap64 (t168 * (wrap64 (30 - x7_4)))) 30)) [.int .i64 (wrap64 (Int.tdiv (wrap64 (t168 * (wrap64 (30 - x7_4)))) 30))] (fun _ => True) (fun _ => False) rfl rfl ?aP (fun _ hk => hk.elim) ?aF ?aO ?aB ?aS ?aL ?_; (case aP => exact rfl); (case aB => exact belowNow); (case aF => exact (fun _ _ => trivial)); (case aO => exact (pR_ HO_5.out)); (case aS => exact (below_size belowNow)); (case aL => have := LMc60.out; omega); intro v195 w63 ho hb hg hat; rw [← Ny194.out] at ho; have n0_ := am_ (Kd.Q_over' (by (with_reducible repeat (first | apply Kd.Q_alloc | apply Kd.Q_drewN | apply Kd.Q_drew)); exact HO_163005.out) (Kd.R_typed (pR_ HO_5.out)) (by decide) hg); have n1_ := am_ (blk_grown (g := gb162) (o := .cells #[.int .i64 t164, .int .i64 t165, .int .i64 t166, .int .i64 t167, .int .i64 t168, u163005] 35 (0, 0)) blkNow hg (Kd.R_ne HO_5.out BK162.out (by decide))); have n2_ := am_ (blk_grown (g := gb163) (o := .cells #[.int .i64 0, .int .i64 0, .int .i64 0, .int .i64 0, .int .i64 0, .slice none 0 0] 35 (0, 0)) blkNow hg (Kd.R_ne HO_5.out BK163.out (by decide))); have n3_ := am_ (hb); have n4_ := am_ (ho); clear HO_163005; clear BK162; clear BK163; clear HB; clear HO_5; have HO_163005 := n0_; have BK162 := n1_; have BK163 := n2_; have HB := n3_; have HO196 := n4_; clear n0_ n1_ n2_ n3_ n4_; clear ho hb hg hat))
          go_roundg k4
          case measure => have := HJ2.out; have := HJ30.out; have := HJ37.out; have := HK4.out; omega
          case rel => exact ⟨(y194), (wrap64 (x7_4 + 1)), (by first | rfl | (simp; done) | (simp [*]; done)), H', ⟨by have := HJ2.out; have := HJ30.out; have := HJ37.out; have := HK4.out; omega⟩, ⟨pR_ HO196.out⟩, ⟨by (with_reducible repeat (first | apply Kd.Q_alloc | apply Kd.Q_drewN | apply Kd.Q_drew)); exact HO_163005.out⟩, ⟨pB_ BK162.out⟩, ⟨pB_ BK163.out⟩, ⟨belowNow⟩⟩
         rw [if_neg c59] at H; have c59b0 : decide (x7_4 ≤ 30) = false := decide_eq_false c59; clear c59; obtain ⟨ji64, hji64⟩ : ∃ j_ : Int, (wrap64 ((x5_4.length : Int) - 1)) = j_ := ⟨_, rfl⟩
         replace H : (if 0 ≤ (ji64) then (if (ji64) < (x5_4.length : Int) then (some (wrap64 (t164 + 1), t165, t166, wrap64 (t167 + 1), rd x5_4 (ji64), x163005_37, x5_4, true)) else (none)) else (none)) = some (r1, r2, r3, r4, r5, r6, r7, r8) := by first | (rw [hji64] at H; exact H) | (simp only [hji64] at H ⊢; exact H)
         have hji64w : (IntKind.i64.wrap ((x5_4.length : Int) - 1)) = ji64 := (i64_w _).trans hji64
         by_cases c65 : 0 ≤ (ji64)
         case neg =>
          rw [if_neg c65] at H
          exact absurd H (by simp)

         rw [if_pos c65] at H; have c65b0 : decide (0 ≤ (ji64)) = true := decide_eq_true c65; clear c65
         by_cases c66 : (ji64) < (x5_4.length : Int)
         case neg =>
          rw [if_neg c66] at H
          exact absurd H (by simp)
         rw [if_pos c66] at H; have c66b0 : decide ((ji64) < (x5_4.length : Int)) = true := decide_eq_true c66; clear c66; simp only [Option.some.injEq, Prod.mk.injEq] at H; obtain ⟨rfl, rfl, rfl, rfl, rfl, rfl, rfl, rfl⟩ := H; have ⟨hnb67, hnc67⟩ := nn6_ NB162_163.out; have hcz68_0 := cz6_ BK162.out 0 rfl; have hcz68_1 := cz6_ BK162.out 1 rfl; have hcz68_2 := cz6_ BK162.out 2 rfl; have hcz68_3 := cz6_ BK162.out 3 rfl; have hcz68_4 := cz6_ BK162.out 4 rfl; have hcz68_5 := cz6_ BK162.out 5 rfl; have hfz68_0 := blk_frozen BK162.out 0; have hfz68_1 := blk_frozen BK162.out 1; have hfz68_2 := blk_frozen BK162.out 2; have hfz68_3 := blk_frozen BK162.out 3; have hfz68_4 := blk_frozen BK162.out 4; have hfz68_5 := blk_frozen BK162.out 5; obtain ⟨Ao69, co69, eo69⟩ := Kd.R_slice HO_5.out; subst eo69
         have p197 : 0 ≤ ((ji64) : Int) := of_decide_eq_true (by first | (with_reducible assumption) | assumption)
         have q197 : (ji64) < (x5_4.length : Int) := of_decide_eq_true (by first | (with_reducible assumption) | assumption)
         obtain ⟨ad197, e197, hx197_0⟩ := Kd.at_int (Kd.R_reads' HO_5.out).2.2 (ji64) p197 q197
         cases e197
         have hn197_0 : ad197.block ≠ gb162 := Kd.own_blk (Kd.R_ne HO_5.out BK162.out (by decide))
         have hn197_1 : ad197.block ≠ gb162 := Kd.own_blk (Kd.R_ne HO_5.out BK162.out (by decide))
         replace hx197_0 := (cell_far (p := ⟨gb162, 3, none⟩) (by first | (rw [add_block]; exact hn197_0) | (show (Addr.add _ _).block ≠ _; rw [add_block]; exact hn197_0) | exact hn197_0) (.int .i64 (wrap64 (t167 + 1)))).trans hx197_0
         replace hx197_0 := (cell_far (p := ⟨gb162, 0, none⟩) (by first | (rw [add_block]; exact hn197_1) | (show (Addr.add _ _).block ≠ _; rw [add_block]; exact hn197_1) | exact hn197_1) (.int .i64 (wrap64 (t164 + 1)))).trans hx197_0
         clear hn197_0 hn197_1; replace p197 := eq_true p197; replace q197 := eq_true q197; have hcz70_0 := cz6_ BK163.out 0 rfl; have hcz70_1 := cz6_ BK163.out 1 rfl; have hcz70_2 := cz6_ BK163.out 2 rfl; have hcz70_3 := cz6_ BK163.out 3 rfl; have hcz70_4 := cz6_ BK163.out 4 rfl; have hcz70_5 := cz6_ BK163.out 5 rfl; have hfz70_0 := blk_frozen BK163.out 0; have hfz70_1 := blk_frozen BK163.out 1; have hfz70_2 := blk_frozen BK163.out 2; have hfz70_3 := blk_frozen BK163.out 3; have hfz70_4 := blk_frozen BK163.out 4; have hfz70_5 := blk_frozen BK163.out 5; obtain ⟨Ao71, co71, eo71, _⟩ := Kd.Q_slice HO_163005.out; subst eo71
         go_wp2
         refine bodyPost_ret (results_ctt rfl _ _ gb163 35 #[.int .i64 (wrap64 (t164 + 1)), .int .i64 t165, .int .i64 t166, .int .i64 (wrap64 (t167 + 1)), .int .i64 (rd x5_4 (ji64)), .slice Ao71 x163005_37.length co71] (0, 0) _ rfl (by (with_reducible repeat (first | refine blk_drewN ?_ _ | refine blk_drew ?_ | refine blk_alloc ?_ _)); refine Far.put6_ #[.int .i64 0, .int .i64 0, .int .i64 0, .int .i64 0, .int .i64 0, .slice none 0 0] rfl ?_; (with_reducible repeat (first | refine blk_drewN ?_ _ | refine blk_drew ?_ | refine blk_alloc ?_ _)); refine blk_far ?_ NB163_162.out _; (with_reducible repeat (first | refine blk_drewN ?_ _ | refine blk_drew ?_ | refine blk_alloc ?_ _)); refine blk_far ?_ NB163_162.out _; (with_reducible repeat (first | refine blk_drewN ?_ _ | refine blk_drew ?_ | refine blk_alloc ?_ _)); refine blk_far ?_ NB163_162.out _; (with_reducible repeat (first | refine blk_drewN ?_ _ | refine blk_drew ?_ | refine blk_alloc ?_ _)); exact BK163.out) Try.underlying35 rfl (by kernel_rfl)) rfl ?_
         exact ⟨_, _, by first | rfl | (simp [errW_none, errW_some] <;> rfl) | (simp only [← hji64]; first | rfl | (simp [errW_none, errW_some] <;> rfl)) | (simp [*, errW_none, errW_some] <;> rfl), by (with_reducible repeat (first | apply Kd.Q_alloc | apply Kd.Q_drewN | apply Kd.Q_drew)); exact Kd.Q_mono (Far.qfar6_ (fun _ hk => hk.2) (Far.qfar3_ (fun _ hk => hk.1.2) (Kd.Q_types (Kd.Q_types HO_163005.out BK162.out (by decide)) BK163.out (by decide)))) (fun _ hk => trivial), by (with_reducible repeat (first | apply Kd.R_alloc | apply Kd.R_drewN | apply Kd.R_drew)); exact Kd.R_mono (Far.rfar6_ (fun _ hk => hk.2) (Far.rfar3_ (fun _ hk => hk.1.2) (Kd.R_types (Kd.R_types HO_5.out BK162.out (by decide)) BK163.out (by decide)))) (fun _ hk => trivial), belowNow⟩
end Go.Proofs.Ytbgdmbjipladoaa.PFnExactPlay
