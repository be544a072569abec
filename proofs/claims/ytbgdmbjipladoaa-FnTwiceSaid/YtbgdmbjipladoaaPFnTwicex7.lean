-- laid by a program of this session (wip/lay/lay.py); Lean checks it
import Derived.Test.YtbgdmbjipladoaaPFnTwicex0
import Derived.Test.YtbgdmbjipladoaaPFnTwicex2
import Derived.Test.YtbgdmbjipladoaaPFnTwicex3
import Derived.Test.YtbgdmbjipladoaaPFnTwicex6
namespace Go.Proofs.Ytbgdmbjipladoaa.PFnTwice
open Go.RowKit Go.Proofs.YtbgdmbjipladoaaW.PrintWords Go.Proofs.YtbgdmbjipladoaaW.PrintLast Go.Proofs.YtbgdmbjipladoaaW.PrintMore
attribute [local go_sem] max2_int min2_int max_two min_two max_three min_three max_four min_four   -- for this text's walks alone
set_option linter.unusedVariables false
set_option linter.unusedSimpArgs false

/-! ### impl_Play: function 30 -/
mutual
def impl_Play.j0 : Nat → Bool → Int → Int → Int → Int → Int → List (S44) → Option (Int × Int × Int × Int × Int × (List (S44)) × List Int × Bool)
  | 0, _, _, _, _, _, _, _ => none
  | k + 1, x22, x163000, x163001, x163002, x163003, x163004, x163005 => if x22 = true then (some (x163000, x163001, x163002, x163003, x163004, x163005, ([] : List Int), false)) else (if (x163005.length : Int) > 0 then (if 0 < (x163005.length : Int) then (impl_Play.j1 k ([] : List Int) false (((rd_T44 x163005 0).f1) == x163000) x163000 x163001 x163002 x163003 x163004 x163005) else (none)) else (impl_Play.j1 k ([] : List Int) false false x163000 x163001 x163002 x163003 x163004 x163005))
def impl_Play.j1 : Nat → List Int → Bool → Bool → Int → Int → Int → Int → Int → List (S44) → Option (Int × Int × Int × Int × Int × (List (S44)) × List Int × Bool)
  | 0, _, _, _, _, _, _, _, _, _ => none
  | k + 1, x5, x6, x37, x163000, x163001, x163002, x163003, x163004, x163005 => if x37 = true then (if 0 < (x163005.length : Int) then ((impl_OfFrame.f k x163004 ((rd_T44 x163005 0).f2.f0) ((rd_T44 x163005 0).f2.f1) ((rd_T44 x163005 0).f2.f2) ((rd_T44 x163005 0).f2.f3) ((rd_T44 x163005 0).f2.f4) ((rd_T44 x163005 0).f2.f5) ((rd_T44 x163005 0).f2.f6) ((rd_T44 x163005 0).f2.f7) ((rd_T44 x163005 0).f2.f8) ((rd_T44 x163005 0).f2.f9) ((rd_T44 x163005 0).f2.f10) ((rd_T44 x163005 0).f2.f11) ((rd_T44 x163005 0).f2.f12) ((rd_T44 x163005 0).f2.f13) ((rd_T44 x163005 0).f2.f14) ((rd_T44 x163005 0).f2.f15)).bind fun bt175 => (if 1 ≤ (x163005.length : Int) then (impl_Play.j2 k bt175.1 bt175.2.2.2 x163000 x163001 x163002 x163003 x163004 (x163005.drop (1 : Int).toNat)) else (none))) else (none)) else (impl_Play.j2 k x5 x6 x163000 x163001 x163002 x163003 x163004 x163005)
def impl_Play.j2 : Nat → List Int → Bool → Int → Int → Int → Int → Int → List (S44) → Option (Int × Int × Int × Int × Int × (List (S44)) × List Int × Bool)
  | 0, _, _, _, _, _, _, _, _ => none
  | k + 1, x5, x6, x163000, x163001, x163002, x163003, x163004, x163005 => if x6 = true then (if 29 < (x5.length : Int) then (some (wrap64 (x163000 + 1), x163001, x163002, x163003, rd x5 29, x163005, x5, true)) else (none)) else (impl_Play.l0 k ([] : List Int) 1 x163000 x163001 x163002 x163003 x163004 x163005)
def impl_Play.l0 : Nat → List Int → Int → Int → Int → Int → Int → Int → List (S44) → Option (Int × Int × Int × Int × Int × (List (S44)) × List Int × Bool)
  | 0, _, _, _, _, _, _, _, _ => none
  | k + 1, x5, x7, x163000, x163001, x163002, x163003, x163004, x163005 => if x7 ≤ 30 then (if x5.length < 17592186044416 then (impl_Play.l0 k (x5 ++ [wrap64 (Int.tdiv (wrap64 (x163004 * (wrap64 (30 - x7)))) 30)]) (wrap64 (x7 + 1)) x163000 x163001 x163002 x163003 x163004 x163005) else (none)) else (if 29 < (x5.length : Int) then (some (wrap64 (x163000 + 1), x163001, x163002, wrap64 (x163003 + 1), rd x5 29, x163005, x5, true)) else (none))
end
def impl_Play.f (k : Nat) (a0_0 : Int) (a0_1 : Int) (a0_2 : Int) (a0_3 : Int) (a0_4 : Int) (l0_5 : List (S44)) : Option (Int × Int × Int × Int × Int × (List (S44)) × List Int × Bool) := (impl_ownPlayer.f a0_0 a0_1 a0_2 a0_3 a0_4 l0_5).bind fun bt164 => ((impl_PlayerOk.f k bt164.1 bt164.2.1 bt164.2.2.1 bt164.2.2.2.1 bt164.2.2.2.2.1 bt164.2.2.2.2.2).bind fun t172 => (if t172 = true then (if bt164.1 = 1000000 then (impl_Play.j0 k true bt164.1 bt164.2.1 bt164.2.2.1 bt164.2.2.2.1 bt164.2.2.2.2.1 bt164.2.2.2.2.2) else (impl_Play.j0 k (bt164.2.2.2.1 == 1000000000) bt164.1 bt164.2.1 bt164.2.2.1 bt164.2.2.2.1 bt164.2.2.2.2.1 bt164.2.2.2.2.2)) else (impl_Play.j0 k true bt164.1 bt164.2.1 bt164.2.2.1 bt164.2.2.2.1 bt164.2.2.2.2.1 bt164.2.2.2.2.2)))
theorem impl_Play.mono_l : ∀ k, (∀ y0 y1 y2 y3 y4 y5 y6, LeO (impl_Play.j0 k y0 y1 y2 y3 y4 y5 y6) (impl_Play.j0 (k + 1) y0 y1 y2 y3 y4 y5 y6)) ∧ (∀ y0 y1 y2 y3 y4 y5 y6 y7 y8, LeO (impl_Play.j1 k y0 y1 y2 y3 y4 y5 y6 y7 y8) (impl_Play.j1 (k + 1) y0 y1 y2 y3 y4 y5 y6 y7 y8)) ∧ (∀ y0 y1 y2 y3 y4 y5 y6 y7, LeO (impl_Play.j2 k y0 y1 y2 y3 y4 y5 y6 y7) (impl_Play.j2 (k + 1) y0 y1 y2 y3 y4 y5 y6 y7)) ∧ (∀ y0 y1 y2 y3 y4 y5 y6 y7, LeO (impl_Play.l0 k y0 y1 y2 y3 y4 y5 y6 y7) (impl_Play.l0 (k + 1) y0 y1 y2 y3 y4 y5 y6 y7))
  | 0 => ⟨fun _ _ _ _ _ _ _ r h => by simp [impl_Play.j0] at h, fun _ _ _ _ _ _ _ _ _ r h => by simp [impl_Play.j1] at h, fun _ _ _ _ _ _ _ _ r h => by simp [impl_Play.j2] at h, fun _ _ _ _ _ _ _ _ r h => by simp [impl_Play.l0] at h⟩
  | k + 1 => by
    obtain ⟨ih0, ih1, ih2, ih3⟩ := impl_Play.mono_l k
    refine ⟨?_, ?_, ?_, ?_⟩
    · intro y0 y1 y2 y3 y4 y5 y6
      unfold impl_Play.j0
      repeat' first
      | (with_reducible exact ih0 _ _ _ _ _ _ _)
      | (with_reducible exact ih1 _ _ _ _ _ _ _ _ _)
      | (with_reducible exact ih2 _ _ _ _ _ _ _ _)
      | (with_reducible exact ih3 _ _ _ _ _ _ _ _)
      | (with_reducible exact impl_OfFrame.mono _ _ _ _ _ _ _ _ _ _ _ _ _ _ _ _ _ _)
      | (with_reducible exact impl_PlayerOk.mono _ _ _ _ _ _ _)
      | (with_reducible exact LeO.refl _)
      | (with_reducible exact LeO.none _)
      | (with_reducible refine LeO.ite ?_ ?_)
      | (with_reducible refine LeO.bind ?_ (fun _ => ?_))
      | exact ih0 _ _ _ _ _ _ _
      | exact ih1 _ _ _ _ _ _ _ _ _
      | exact ih2 _ _ _ _ _ _ _ _
      | exact ih3 _ _ _ _ _ _ _ _
      | exact impl_OfFrame.mono _ _ _ _ _ _ _ _ _ _ _ _ _ _ _ _ _ _
      | exact impl_PlayerOk.mono _ _ _ _ _ _ _
      | exact LeO.none _
      | refine LeO.ite ?_ ?_
      | refine LeO.bind ?_ (fun _ => ?_)
    · intro y0 y1 y2 y3 y4 y5 y6 y7 y8
      unfold impl_Play.j1
      repeat' first
      | (with_reducible exact ih0 _ _ _ _ _ _ _)
      | (with_reducible exact ih1 _ _ _ _ _ _ _ _ _)
      | (with_reducible exact ih2 _ _ _ _ _ _ _ _)
      | (with_reducible exact ih3 _ _ _ _ _ _ _ _)
      | (with_reducible exact impl_OfFrame.mono _ _ _ _ _ _ _ _ _ _ _ _ _ _ _ _ _ _)
      | (with_reducible exact impl_PlayerOk.mono _ _ _ _ _ _ _)
      | (with_reducible exact LeO.refl _)
      | (with_reducible exact LeO.none _)
      | (with_reducible refine LeO.ite ?_ ?_)
      | (with_reducible refine LeO.bind ?_ (fun _ => ?_))
      | exact ih0 _ _ _ _ _ _ _
      | exact ih1 _ _ _ _ _ _ _ _ _
      | exact ih2 _ _ _ _ _ _ _ _
      | exact ih3 _ _ _ _ _ _ _ _
      | exact impl_OfFrame.mono _ _ _ _ _ _ _ _ _ _ _ _ _ _ _ _ _ _
      | exact impl_PlayerOk.mono _ _ _ _ _ _ _
      | exact LeO.none _
      | refine LeO.ite ?_ ?_
      | refine LeO.bind ?_ (fun _ => ?_)
    · intro y0 y1 y2 y3 y4 y5 y6 y7
      unfold impl_Play.j2
      repeat' first
      | (with_reducible exact ih0 _ _ _ _ _ _ _)
      | (with_reducible exact ih1 _ _ _ _ _ _ _ _ _)
      | (with_reducible exact ih2 _ _ _ _ _ _ _ _)
      | (with_reducible exact ih3 _ _ _ _ _ _ _ _)
      | (with_reducible exact impl_OfFrame.mono _ _ _ _ _ _ _ _ _ _ _ _ _ _ _ _ _ _)
      | (with_reducible exact impl_PlayerOk.mono _ _ _ _ _ _ _)
      | (with_reducible exact LeO.refl _)
      | (with_reducible exact LeO.none _)
      | (with_reducible refine LeO.ite ?_ ?_)
      | (with_reducible refine LeO.bind ?_ (fun _ => ?_))
      | exact ih0 _ _ _ _ _ _ _
      | exact ih1 _ _ _ _ _ _ _ _ _
      | exact ih2 _ _ _ _ _ _ _ _
      | exact ih3 _ _ _ _ _ _ _ _
      | exact impl_OfFrame.mono _ _ _ _ _ _ _ _ _ _ _ _ _ _ _ _ _ _
      | exact impl_PlayerOk.mono _ _ _ _ _ _ _
      | exact LeO.none _
      | refine LeO.ite ?_ ?_
      | refine LeO.bind ?_ (fun _ => ?_)
    · intro y0 y1 y2 y3 y4 y5 y6 y7
      unfold impl_Play.l0
      repeat' first
      | (with_reducible exact ih0 _ _ _ _ _ _ _)
      | (with_reducible exact ih1 _ _ _ _ _ _ _ _ _)
      | (with_reducible exact ih2 _ _ _ _ _ _ _ _)
      | (with_reducible exact ih3 _ _ _ _ _ _ _ _)
      | (with_reducible exact impl_OfFrame.mono _ _ _ _ _ _ _ _ _ _ _ _ _ _ _ _ _ _)
      | (with_reducible exact impl_PlayerOk.mono _ _ _ _ _ _ _)
      | (with_reducible exact LeO.refl _)
      | (with_reducible exact LeO.none _)
      | (with_reducible refine LeO.ite ?_ ?_)
      | (with_reducible refine LeO.bind ?_ (fun _ => ?_))
      | exact ih0 _ _ _ _ _ _ _
      | exact ih1 _ _ _ _ _ _ _ _ _
      | exact ih2 _ _ _ _ _ _ _ _
      | exact ih3 _ _ _ _ _ _ _ _
      | exact impl_OfFrame.mono _ _ _ _ _ _ _ _ _ _ _ _ _ _ _ _ _ _
      | exact impl_PlayerOk.mono _ _ _ _ _ _ _
      | exact LeO.none _
      | refine LeO.ite ?_ ?_
      | refine LeO.bind ?_ (fun _ => ?_)
theorem impl_Play.mono : ∀ a0 a1 a2 a3 a4 a5 k, LeO (impl_Play.f k a0 a1 a2 a3 a4 a5) (impl_Play.f (k + 1) a0 a1 a2 a3 a4 a5) := by
  intro a0 a1 a2 a3 a4 a5 k
  obtain ⟨ih0, ih1, ih2, ih3⟩ := impl_Play.mono_l k
  unfold impl_Play.f
  repeat' first
      | (with_reducible exact ih0 _ _ _ _ _ _ _)
      | (with_reducible exact ih1 _ _ _ _ _ _ _ _ _)
      | (with_reducible exact ih2 _ _ _ _ _ _ _ _)
      | (with_reducible exact ih3 _ _ _ _ _ _ _ _)
      | (with_reducible exact impl_OfFrame.mono _ _ _ _ _ _ _ _ _ _ _ _ _ _ _ _ _ _)
      | (with_reducible exact impl_PlayerOk.mono _ _ _ _ _ _ _)
      | (with_reducible exact LeO.refl _)
      | (with_reducible exact LeO.none _)
      | (with_reducible refine LeO.ite ?_ ?_)
      | (with_reducible refine LeO.bind ?_ (fun _ => ?_))
      | exact ih0 _ _ _ _ _ _ _
      | exact ih1 _ _ _ _ _ _ _ _ _
      | exact ih2 _ _ _ _ _ _ _ _
      | exact ih3 _ _ _ _ _ _ _ _
      | exact impl_OfFrame.mono _ _ _ _ _ _ _ _ _ _ _ _ _ _ _ _ _ _
      | exact impl_PlayerOk.mono _ _ _ _ _ _ _
      | exact LeO.none _
      | refine LeO.ite ?_ ?_
      | refine LeO.bind ?_ (fun _ => ?_)
def impl_Play.T6 : Bool × List (List Nat × List Nat) := (true, [([], []), ([0], [0]), ([1], [1]), ([2], [2]), ([3], [3]), ([4], [4]), ([5, 4], [4, 5]), ([6, 4], [4, 6]), ([7, 4], [4, 7]), ([8, 4], [4, 8]), ([4], [4]), ([10, 4], [4, 10]), ([9, 11, 4], [4, 9, 11]), ([4, 12], [4, 12])])
def impl_Play.B6 : List Nat := [0, 1, 3, 7, 15, 31, 63, 127, 255, 511, 31, 1055, 4095, 8191]
theorem impl_Play.tab6 : rtab .any (opsOf Try.f30 6) = impl_Play.T6 := by kernel_rfl
theorem impl_Play.bits6 : waitsOk impl_Play.T6.2 impl_Play.B6 = true := by kernel_rfl
def impl_Play.T7 : Bool × List (List Nat × List Nat) := (true, [([], []), ([0], [0]), ([], []), ([2], [2]), ([3], [3]), ([4], [4]), ([5], [5]), ([1, 6], [1, 6]), ([7], [7]), ([8], [8]), ([8], [8]), ([8], [8]), ([9, 7, 0, 1, 2, 3, 4, 5, 6, 7, 8, 9], [9]), ([11, 12, 0, 1, 2, 3, 4, 5, 6, 7, 8, 9, 10, 11, 12], [11])])
def impl_Play.B7 : List Nat := [0, 1, 0, 4, 12, 28, 60, 127, 255, 511, 511, 511, 1023, 8191]
theorem impl_Play.tab7 : rtab .any (opsOf Try.f30 7) = impl_Play.T7 := by kernel_rfl
theorem impl_Play.bits7 : waitsOk impl_Play.T7.2 impl_Play.B7 = true := by kernel_rfl
set_option maxHeartbeats 8000000 in
set_option maxRecDepth 100000 in
theorem impl_Play.calls (k : Nat) (a0_0 : Int) (a0_1 : Int) (a0_2 : Int) (a0_3 : Int) (a0_4 : Int) (A0_5 : Option Addr) (c0_5 : Nat) (l0_5 : List (S44)) (r1 : Int) (r2 : Int) (r3 : Int) (r4 : Int) (r5 : Int) (r6 : List (S44)) (r7 : List Int) (r8 : Bool) (w : World) (hr0_5 : Kd.C k44 w A0_5 l0_5.length l0_5) (hc0_5 : l0_5.length ≤ c0_5) (h : impl_Play.f k a0_0 a0_1 a0_2 a0_3 a0_4 l0_5 = some (r1, r2, r3, r4, r5, r6, r7, r8)) :
    Calls Try.prog 30 #[.agg #[.int .i64 a0_0, .int .i64 a0_1, .int .i64 a0_2, .int .i64 a0_3, .int .i64 a0_4, .slice A0_5 l0_5.length c0_5]] w fun e w' => ∃ v5_ v6_ : Value, e = .returned (.tuple #[.agg #[.int .i64 r1, .int .i64 r2, .int .i64 r3, .int .i64 r4, .int .i64 r5, v5_], v6_, .bool r8]) ∧ Kd.Q k44 44 w' w.heap.size (fun _ => True) v5_ r6 ∧ Kd.R (Kd.int .i64) 3 w' w.heap.size (fun _ => True) v6_ r7 ∧ Below w.heap.size w w' := by
  have hu35 := Try.underlying35
  have hu39 := Try.underlying39
  have HR0_5 := Aside0.mk hr0_5
  have HC0_5 := Aside0.mk hc0_5
  clear hr0_5 hc0_5
  have HB := Aside0.mk (Below.refl w.heap.size w)
  have H : ((impl_ownPlayer.f a0_0 a0_1 a0_2 a0_3 a0_4 l0_5).bind fun bt164 => ((impl_PlayerOk.f k bt164.1 bt164.2.1 bt164.2.2.1 bt164.2.2.2.1 bt164.2.2.2.2.1 bt164.2.2.2.2.2).bind fun t172 => (if t172 = true then (if bt164.1 = 1000000 then (impl_Play.j0 k true bt164.1 bt164.2.1 bt164.2.2.1 bt164.2.2.2.1 bt164.2.2.2.2.1 bt164.2.2.2.2.2) else (impl_Play.j0 k (bt164.2.2.2.1 == 1000000000) bt164.1 bt164.2.1 bt164.2.2.1 bt164.2.2.2.1 bt164.2.2.2.2.1 bt164.2.2.2.2.2)) else (impl_Play.j0 k true bt164.1 bt164.2.1 bt164.2.2.1 bt164.2.2.2.1 bt164.2.2.2.2.1 bt164.2.2.2.2.2)))) = some (r1, r2, r3, r4, r5, r6, r7, r8) := h
  clear h
  replace H := Option.bind_eq_some_iff.mp H
  obtain ⟨⟨t164, t165, t166, t167, t168, t169⟩, A20, H⟩ := H
  replace H : ((impl_PlayerOk.f k t164 t165 t166 t167 t168 t169).bind fun t172 => (if t172 = true then (if t164 = 1000000 then (impl_Play.j0 k true t164 t165 t166 t167 t168 t169) else (impl_Play.j0 k (t167 == 1000000000) t164 t165 t166 t167 t168 t169)) else (impl_Play.j0 k true t164 t165 t166 t167 t168 t169))) = some (r1, r2, r3, r4, r5, r6, r7, r8) := H
  have A2 := Aside0.mk A20
  clear A20
  have HC3 := Aside0.mk H
  clear H
  go_enter Try.func30, Try.ntmps30
  go_upto_region 2 with (first | ((with_reducible refine gate_dst (N := 1) rfl ?_); refine box_event ?hg (N := 1) ?hd (cs := #[.int .i64 a0_0, .int .i64 a0_1, .int .i64 a0_2, .int .i64 a0_3, .int .i64 a0_4, .slice A0_5 l0_5.length c0_5]) (t := 35) ?hr ?_; (case hd => rfl); (case hg => rfl); (case hr => first | (go_simp; done) | (go_simp; rfl)); intro gb162 hg w4 hbox hb; have n0_ := Aside0.mk (below_step (by repeat (first | (with_reducible first | exact HB.out | apply below_alloc | apply pw_below_drewN | apply below_drew1) | exact HB.out)) hb); have n1_ := Aside0.mk (hbox); have n2_ := Aside0.mk ((by rw [hg]; exact (below_size (by repeat (first | (with_reducible first | exact HB.out | apply below_alloc | apply pw_below_drewN | apply below_drew1) | exact HB.out))) : w.heap.size ≤ gb162)); have n3_ := Aside0.mk ((by rw [hg]; exact (below_size (by repeat (first | (with_reducible first | exact HB.out | apply below_alloc | apply pw_below_drewN | apply below_drew1) | exact HB.out))) : w.heap.size ≤ gb162)); clear HB; have HB := n0_; have BK162 := n1_; have GW162 := n2_; have GE162 := n3_; clear n0_ n1_ n2_ n3_; clear hb hbox hg) | ((with_reducible refine gate_dst (N := 2) rfl ?_); refine box_event ?hg (N := 2) ?hd (cs := #[.int .i64 0, .int .i64 0, .int .i64 0, .int .i64 0, .int .i64 0, .slice none 0 0]) (t := 35) ?hr ?_; (case hd => rfl); (case hg => rfl); (case hr => first | (go_simp; done) | (go_simp; rfl)); intro gb163 hg w5 hbox hb; have n0_ := Aside0.mk (blk_below (g := gb162) (o := .cells #[.int .i64 a0_0, .int .i64 a0_1, .int .i64 a0_2, .int .i64 a0_3, .int .i64 a0_4, .slice A0_5 l0_5.length c0_5] 35 (0, 0)) (by (with_reducible repeat (first | refine blk_drewN ?_ _ | refine blk_drew ?_ | refine blk_alloc ?_ _)); exact BK162.out) hb); have n1_ := Aside0.mk (below_step (by repeat (first | (with_reducible first | exact HB.out | apply below_alloc | apply pw_below_drewN | apply below_drew1 | refine below_set ?_ GE162.out) | exact HB.out)) hb); have n2_ := Aside0.mk (hbox); have n3_ := Aside0.mk ((by rw [hg]; exact (below_size (by repeat (first | (with_reducible first | exact HB.out | apply below_alloc | apply pw_below_drewN | apply below_drew1 | refine below_set ?_ GE162.out) | exact HB.out))) : w.heap.size ≤ gb163)); have n4_ := Aside0.mk ((by rw [hg]; exact (below_size (by repeat (first | (with_reducible first | exact HB.out | apply below_alloc | apply pw_below_drewN | apply below_drew1 | refine below_set ?_ GE162.out) | exact HB.out))) : w.heap.size ≤ gb163)); have n5_ := Aside0.mk ((by rw [hg]; exact Nat.ne_of_lt (blk_lt (g := gb162) (o := .cells #[.int .i64 a0_0, .int .i64 a0_1, .int .i64 a0_2, .int .i64 a0_3, .int .i64 a0_4, .slice A0_5 l0_5.length c0_5] 35 (0, 0)) (by (with_reducible repeat (first | refine blk_drewN ?_ _ | refine blk_drew ?_ | refine blk_alloc ?_ _)); exact BK162.out)) : gb162 ≠ gb163)); have n6_ := Aside0.mk ((by rw [hg]; exact Nat.ne_of_gt (blk_lt (g := gb162) (o := .cells #[.int .i64 a0_0, .int .i64 a0_1, .int .i64 a0_2, .int .i64 a0_3, .int .i64 a0_4, .slice A0_5 l0_5.length c0_5] 35 (0, 0)) (by (with_reducible repeat (first | refine blk_drewN ?_ _ | refine blk_drew ?_ | refine blk_alloc ?_ _)); exact BK162.out)) : gb163 ≠ gb162)); clear BK162; clear HB; have BK162 := n0_; have HB := n1_; have BK163 := n2_; have GW163 := n3_; have GE163 := n4_; have NB162_163 := n5_; have NB163_162 := n6_; clear n0_ n1_ n2_ n3_ n4_ n5_ n6_; clear hb hbox hg; have hnb6 := NB162_163.out; have hnc6 := NB163_162.out; have hcz7_0 : w5.cell? ⟨gb162, 0, none⟩ = some (.int .i64 a0_0) := (blk_cell BK162.out 0).trans rfl; have hcz7_1 : w5.cell? ⟨gb162, 1, none⟩ = some (.int .i64 a0_1) := (blk_cell BK162.out 1).trans rfl; have hcz7_2 : w5.cell? ⟨gb162, 2, none⟩ = some (.int .i64 a0_2) := (blk_cell BK162.out 2).trans rfl; have hcz7_3 : w5.cell? ⟨gb162, 3, none⟩ = some (.int .i64 a0_3) := (blk_cell BK162.out 3).trans rfl; have hcz7_4 : w5.cell? ⟨gb162, 4, none⟩ = some (.int .i64 a0_4) := (blk_cell BK162.out 4).trans rfl; have hcz7_5 : w5.cell? ⟨gb162, 5, none⟩ = some (.slice A0_5 l0_5.length c0_5) := (blk_cell BK162.out 5).trans rfl; have hfz7_0 := blk_frozen BK162.out 0; have hfz7_1 := blk_frozen BK162.out 1; have hfz7_2 := blk_frozen BK162.out 2; have hfz7_3 := blk_frozen BK162.out 3; have hfz7_4 := blk_frozen BK162.out 4; have hfz7_5 := blk_frozen BK162.out 5) | ((with_reducible refine gate_callee (f := 54) rfl ?_); refine goesL_ (some 9) rfl rfl Try.func54 (by kernel_rfl) rfl #[.agg #[.int .i64 a0_0, .int .i64 a0_1, .int .i64 a0_2, .int .i64 a0_3, .int .i64 a0_4, .slice A0_5 l0_5.length c0_5]] rfl (by (try simp only [List.map_toArray, List.map_cons, List.map_nil]); first | done | rfl | (simp only [List.length_drop, List.length_take]; rfl)) ?_; (with_reducible refine (impl_ownPlayer.calls a0_0 a0_1 a0_2 a0_3 a0_4 _ _ l0_5 t164 t165 t166 t167 t168 t169 _ ?side1 ?side2 A2.out).mono ?_); (case side1 => repeat (first | exact (Kd.C_below HR0_5.out HB.out) | (with_reducible refine Kd.C_alloc ?_ _) | (with_reducible refine Kd.C_drewN ?_ _) | (with_reducible refine Kd.C_drew ?_))); (case side2 => exact HC0_5.out); rintro e w8 ⟨v170, rfl, ho0, hb⟩; refine ⟨_, rfl, ?_⟩; have n0_ := Aside0.mk (Kd.R_lower ho0 (below_size (by repeat (first | (with_reducible first | exact HB.out | apply below_alloc | apply pw_below_drewN | apply below_drew1 | refine below_set ?_ GE162.out | refine below_set ?_ GE163.out) | exact HB.out)))); have n1_ := Aside0.mk (blk_below (g := gb162) (o := .cells #[.int .i64 a0_0, .int .i64 a0_1, .int .i64 a0_2, .int .i64 a0_3, .int .i64 a0_4, .slice A0_5 l0_5.length c0_5] 35 (0, 0)) (by (with_reducible repeat (first | refine blk_drewN ?_ _ | refine blk_drew ?_ | refine blk_alloc ?_ _)); exact BK162.out) hb); have n2_ := Aside0.mk (blk_below (g := gb163) (o := .cells #[.int .i64 0, .int .i64 0, .int .i64 0, .int .i64 0, .int .i64 0, .slice none 0 0] 35 (0, 0)) (by (with_reducible repeat (first | refine blk_drewN ?_ _ | refine blk_drew ?_ | refine blk_alloc ?_ _)); exact BK163.out) hb); have n3_ := Aside0.mk (below_step (by repeat (first | (with_reducible first | exact HB.out | apply below_alloc | apply pw_below_drewN | apply below_drew1 | refine below_set ?_ GE162.out | refine below_set ?_ GE163.out) | exact HB.out)) hb); clear BK162; clear BK163; clear HB; have HO171 := n0_; have BK162 := n1_; have BK163 := n2_; have HB := n3_; clear n0_ n1_ n2_ n3_; (try clear hb); (try clear hb2); (try clear hk); (try clear hi); (try clear ho0); have hcz9_0 : w8.cell? ⟨gb162, 0, none⟩ = some (.int .i64 a0_0) := (blk_cell BK162.out 0).trans rfl; have hcz9_1 : w8.cell? ⟨gb162, 1, none⟩ = some (.int .i64 a0_1) := (blk_cell BK162.out 1).trans rfl; have hcz9_2 : w8.cell? ⟨gb162, 2, none⟩ = some (.int .i64 a0_2) := (blk_cell BK162.out 2).trans rfl; have hcz9_3 : w8.cell? ⟨gb162, 3, none⟩ = some (.int .i64 a0_3) := (blk_cell BK162.out 3).trans rfl; have hcz9_4 : w8.cell? ⟨gb162, 4, none⟩ = some (.int .i64 a0_4) := (blk_cell BK162.out 4).trans rfl; have hcz9_5 : w8.cell? ⟨gb162, 5, none⟩ = some (.slice A0_5 l0_5.length c0_5) := (blk_cell BK162.out 5).trans rfl; have hfz9_0 := blk_frozen BK162.out 0; have hfz9_1 := blk_frozen BK162.out 1; have hfz9_2 := blk_frozen BK162.out 2; have hfz9_3 := blk_frozen BK162.out 3; have hfz9_4 := blk_frozen BK162.out 4; have hfz9_5 := blk_frozen BK162.out 5; obtain ⟨Ao10, co10, eo10⟩ := Kd.R_slice HO171.out; subst eo10))
  (try simp only [Act.put, List.setIfInBounds_toArray, List.set_cons_zero, List.set_cons_succ])
  go_cut [22] (fun v22 wc => ∃ (kq : Nat) (x22_2 : Bool), v22 = .bool x22_2 ∧ Aside0 (impl_Play.j0 kq x22_2 t164 t165 t166 t167 t168 t169 = some (r1, r2, r3, r4, r5, r6, r7, r8)) ∧ Aside0 (kq ≤ k) ∧ Aside0 (Kd.Q k44 44 wc w.heap.size (fun _ => True) (.slice Ao10 t169.length co10) t169) ∧ Aside0 (wc.heap[gb162]? = some (.cells #[.int .i64 t164, .int .i64 t165, .int .i64 t166, .int .i64 t167, .int .i64 t168, (.slice Ao10 t169.length co10)] 35 (0, 0))) ∧ Aside0 (wc.heap[gb163]? = some (.cells #[.int .i64 0, .int .i64 0, .int .i64 0, .int .i64 0, .int .i64 0, (.slice none 0 0)] 35 (0, 0))) ∧ Aside0 (Below w.heap.size w wc))
  case first =>
    have H := HC3.out
    clear HC3
    replace H := Option.bind_eq_some_iff.mp H
    obtain ⟨t172, A110, H⟩ := H
    replace H : (if t172 = true then (if t164 = 1000000 then (impl_Play.j0 k true t164 t165 t166 t167 t168 t169) else (impl_Play.j0 k (t167 == 1000000000) t164 t165 t166 t167 t168 t169)) else (impl_Play.j0 k true t164 t165 t166 t167 t168 t169)) = some (r1, r2, r3, r4, r5, r6, r7, r8) := H
    have A11 := Aside0.mk A110
    clear A110
    by_cases c12 : t172 = true
    · subst c12
      have H1 : (if t164 = 1000000 then (impl_Play.j0 k true t164 t165 t166 t167 t168 t169) else (impl_Play.j0 k (t167 == 1000000000) t164 t165 t166 t167 t168 t169)) = some (r1, r2, r3, r4, r5, r6, r7, r8) := by rw [if_pos rfl] at H; exact H
      clear H
      have H := H1
      clear H1
      by_cases c13 : t164 = 1000000
      · rw [if_pos c13] at H
        have c13b0 : (t164 == 1000000) = true := beq_iff_eq.mpr c13
        have c13b1 : (t164 != 1000000) = false := bne_eq_false_iff_eq.mpr c13
        clear c13
        (first | rw [c13b0] | (simp only [i64_w, i32_w]; rw [c13b0]) | (rw [c13b2]; try simp only [Bool.not_false, Bool.not_true]) | skip)
        have H' := Aside0.mk H
        clear H
        have hnb14 := NB162_163.out
        have hnc14 := NB163_162.out
        have hcz15_0 : w8.cell? ⟨gb162, 0, none⟩ = some (.int .i64 a0_0) := (blk_cell BK162.out 0).trans rfl
        have hcz15_1 : w8.cell? ⟨gb162, 1, none⟩ = some (.int .i64 a0_1) := (blk_cell BK162.out 1).trans rfl
        have hcz15_2 : w8.cell? ⟨gb162, 2, none⟩ = some (.int .i64 a0_2) := (blk_cell BK162.out 2).trans rfl
        have hcz15_3 : w8.cell? ⟨gb162, 3, none⟩ = some (.int .i64 a0_3) := (blk_cell BK162.out 3).trans rfl
        have hcz15_4 : w8.cell? ⟨gb162, 4, none⟩ = some (.int .i64 a0_4) := (blk_cell BK162.out 4).trans rfl
        have hcz15_5 : w8.cell? ⟨gb162, 5, none⟩ = some (.slice A0_5 l0_5.length c0_5) := (blk_cell BK162.out 5).trans rfl
        have hfz15_0 := blk_frozen BK162.out 0
        have hfz15_1 := blk_frozen BK162.out 1
        have hfz15_2 := blk_frozen BK162.out 2
        have hfz15_3 := blk_frozen BK162.out 3
        have hfz15_4 := blk_frozen BK162.out 4
        have hfz15_5 := blk_frozen BK162.out 5
        go_wp2_with (first | ((with_reducible refine gate_callee (f := 20) rfl ?_); refine goesL_ (some 11) rfl rfl Try.func20 (by kernel_rfl) rfl #[.agg #[.int .i64 t164, .int .i64 t165, .int .i64 t166, .int .i64 t167, .int .i64 t168, .slice Ao10 t169.length co10]] rfl (by (try simp only [List.map_toArray, List.map_cons, List.map_nil]); first | done | rfl | (simp only [List.length_drop, List.length_take]; rfl)) ?_; (with_reducible refine (impl_PlayerOk.calls k t164 t165 t166 t167 t168 _ _ t169 true _ ?side1 ?side2 A11.out).mono ?_); (case side1 => refine (Kd.R_reads' (e := 44) (base := w.heap.size) (ok := fun k_ => True) (n := t169.length) (c := co10) ?_).2.2; exact (by (with_reducible repeat (first | apply Kd.R_alloc | apply Kd.R_drewN | apply Kd.R_drew)); exact (Kd.R_mono (Far.rfar6_ (fun _ hk => hk.2) (Kd.R_types HO171.out BK162.out (by decide))) (fun _ h_ => h_.1)))); (case side2 => exact (Kd.R_reads' HO171.out).2.1); rintro e w16 ⟨rfl, hb⟩; refine ⟨_, rfl, ?_⟩; have n0_ := Aside0.mk (Kd.R_below (by (with_reducible repeat (first | apply Kd.R_alloc | apply Kd.R_drewN | apply Kd.R_drew)); exact (Kd.R_mono (Far.rfar6_ (fun _ hk => hk.2) (Kd.R_types HO171.out BK162.out (by decide))) (fun _ h_ => h_.1))) hb); have n1_ := Aside0.mk (blk_below (g := gb162) (o := .cells #[.int .i64 t164, .int .i64 t165, .int .i64 t166, .int .i64 t167, .int .i64 t168, .slice Ao10 t169.length co10] 35 (0, 0)) (by (with_reducible repeat (first | refine blk_drewN ?_ _ | refine blk_drew ?_ | refine blk_alloc ?_ _)); refine Far.put6_ #[.int .i64 a0_0, .int .i64 a0_1, .int .i64 a0_2, .int .i64 a0_3, .int .i64 a0_4, .slice A0_5 l0_5.length c0_5] rfl ?_; (with_reducible repeat (first | refine blk_drewN ?_ _ | refine blk_drew ?_ | refine blk_alloc ?_ _)); exact BK162.out) hb); have n2_ := Aside0.mk (blk_below (g := gb163) (o := .cells #[.int .i64 0, .int .i64 0, .int .i64 0, .int .i64 0, .int .i64 0, .slice none 0 0] 35 (0, 0)) (by (with_reducible repeat (first | refine blk_drewN ?_ _ | refine blk_drew ?_ | refine blk_alloc ?_ _)); refine blk_far ?_ NB163_162.out _; (with_reducible repeat (first | refine blk_drewN ?_ _ | refine blk_drew ?_ | refine blk_alloc ?_ _)); refine blk_far ?_ NB163_162.out _; (with_reducible repeat (first | refine blk_drewN ?_ _ | refine blk_drew ?_ | refine blk_alloc ?_ _)); refine blk_far ?_ NB163_162.out _; (with_reducible repeat (first | refine blk_drewN ?_ _ | refine blk_drew ?_ | refine blk_alloc ?_ _)); refine blk_far ?_ NB163_162.out _; (with_reducible repeat (first | refine blk_drewN ?_ _ | refine blk_drew ?_ | refine blk_alloc ?_ _)); refine blk_far ?_ NB163_162.out _; (with_reducible repeat (first | refine blk_drewN ?_ _ | refine blk_drew ?_ | refine blk_alloc ?_ _)); refine blk_far ?_ NB163_162.out _; (with_reducible repeat (first | refine blk_drewN ?_ _ | refine blk_drew ?_ | refine blk_alloc ?_ _)); exact BK163.out) hb); have n3_ := Aside0.mk (below_step (by repeat (first | (with_reducible first | exact HB.out | apply below_alloc | apply pw_below_drewN | apply below_drew1 | refine below_set ?_ GE162.out | refine below_set ?_ GE163.out) | exact HB.out)) hb); clear HO171; clear BK162; clear BK163; clear HB; have HO171 := n0_; have BK162 := n1_; have BK163 := n2_; have HB := n3_; clear n0_ n1_ n2_ n3_; (try clear hb); (try clear hb2); (try clear hk); (try clear hi); have hcz17_0 : w16.cell? ⟨gb162, 0, none⟩ = some (.int .i64 t164) := (blk_cell BK162.out 0).trans rfl; have hcz17_1 : w16.cell? ⟨gb162, 1, none⟩ = some (.int .i64 t165) := (blk_cell BK162.out 1).trans rfl; have hcz17_2 : w16.cell? ⟨gb162, 2, none⟩ = some (.int .i64 t166) := (blk_cell BK162.out 2).trans rfl; have hcz17_3 : w16.cell? ⟨gb162, 3, none⟩ = some (.int .i64 t167) := (blk_cell BK162.out 3).trans rfl; have hcz17_4 : w16.cell? ⟨gb162, 4, none⟩ = some (.int .i64 t168) := (blk_cell BK162.out 4).trans rfl; have hcz17_5 : w16.cell? ⟨gb162, 5, none⟩ = some (.slice Ao10 t169.length co10) := (blk_cell BK162.out 5).trans rfl; have hfz17_0 := blk_frozen BK162.out 0; have hfz17_1 := blk_frozen BK162.out 1; have hfz17_2 := blk_frozen BK162.out 2; have hfz17_3 := blk_frozen BK162.out 3; have hfz17_4 := blk_frozen BK162.out 4; have hfz17_5 := blk_frozen BK162.out 5))
        go_meet
        case rel => exact ⟨_, (true), (by first | rfl | (simp; done) | (simp [*]; done)), H', ⟨by first | omega | exact Nat.le_refl _⟩, ⟨Kd.Q_of_R (by (with_reducible repeat (first | apply Kd.R_alloc | apply Kd.R_drewN | apply Kd.R_drew)); exact HO171.out)⟩, ⟨by (with_reducible repeat (first | refine blk_drewN ?_ _ | refine blk_drew ?_ | refine blk_alloc ?_ _)); exact BK162.out⟩, ⟨by (with_reducible repeat (first | refine blk_drewN ?_ _ | refine blk_drew ?_ | refine blk_alloc ?_ _)); exact BK163.out⟩, ⟨by repeat (first | (with_reducible first | exact HB.out | apply below_alloc | apply pw_below_drewN | apply below_drew1 | refine below_set ?_ GE162.out | refine below_set ?_ GE163.out) | exact HB.out)⟩⟩
      · rw [if_neg c13] at H
        have c13b0 : (t164 == 1000000) = false := beq_eq_false_iff_ne.mpr c13
        have c13b1 : (t164 != 1000000) = true := bne_iff_ne.mpr c13
        (first | rw [c13b0] | (simp only [i64_w, i32_w]; rw [c13b0]) | (rw [c13b2]; try simp only [Bool.not_false, Bool.not_true]) | skip)
        have H' := Aside0.mk H
        clear H
        have hnb18 := NB162_163.out
        have hnc18 := NB163_162.out
        have hcz19_0 : w8.cell? ⟨gb162, 0, none⟩ = some (.int .i64 a0_0) := (blk_cell BK162.out 0).trans rfl
        have hcz19_1 : w8.cell? ⟨gb162, 1, none⟩ = some (.int .i64 a0_1) := (blk_cell BK162.out 1).trans rfl
        have hcz19_2 : w8.cell? ⟨gb162, 2, none⟩ = some (.int .i64 a0_2) := (blk_cell BK162.out 2).trans rfl
        have hcz19_3 : w8.cell? ⟨gb162, 3, none⟩ = some (.int .i64 a0_3) := (blk_cell BK162.out 3).trans rfl
        have hcz19_4 : w8.cell? ⟨gb162, 4, none⟩ = some (.int .i64 a0_4) := (blk_cell BK162.out 4).trans rfl
        have hcz19_5 : w8.cell? ⟨gb162, 5, none⟩ = some (.slice A0_5 l0_5.length c0_5) := (blk_cell BK162.out 5).trans rfl
        have hfz19_0 := blk_frozen BK162.out 0
        have hfz19_1 := blk_frozen BK162.out 1
        have hfz19_2 := blk_frozen BK162.out 2
        have hfz19_3 := blk_frozen BK162.out 3
        have hfz19_4 := blk_frozen BK162.out 4
        have hfz19_5 := blk_frozen BK162.out 5
        go_wp2_with (first | ((with_reducible refine gate_callee (f := 20) rfl ?_); refine goesL_ (some 11) rfl rfl Try.func20 (by kernel_rfl) rfl #[.agg #[.int .i64 t164, .int .i64 t165, .int .i64 t166, .int .i64 t167, .int .i64 t168, .slice Ao10 t169.length co10]] rfl (by (try simp only [List.map_toArray, List.map_cons, List.map_nil]); first | done | rfl | (simp only [List.length_drop, List.length_take]; rfl)) ?_; (with_reducible refine (impl_PlayerOk.calls k t164 t165 t166 t167 t168 _ _ t169 true _ ?side1 ?side2 A11.out).mono ?_); (case side1 => refine (Kd.R_reads' (e := 44) (base := w.heap.size) (ok := fun k_ => True) (n := t169.length) (c := co10) ?_).2.2; exact (by (with_reducible repeat (first | apply Kd.R_alloc | apply Kd.R_drewN | apply Kd.R_drew)); exact (Kd.R_mono (Far.rfar6_ (fun _ hk => hk.2) (Kd.R_types HO171.out BK162.out (by decide))) (fun _ h_ => h_.1)))); (case side2 => exact (Kd.R_reads' HO171.out).2.1); rintro e w20 ⟨rfl, hb⟩; refine ⟨_, rfl, ?_⟩; have n0_ := Aside0.mk (Kd.R_below (by (with_reducible repeat (first | apply Kd.R_alloc | apply Kd.R_drewN | apply Kd.R_drew)); exact (Kd.R_mono (Far.rfar6_ (fun _ hk => hk.2) (Kd.R_types HO171.out BK162.out (by decide))) (fun _ h_ => h_.1))) hb); have n1_ := Aside0.mk (blk_below (g := gb162) (o := .cells #[.int .i64 t164, .int .i64 t165, .int .i64 t166, .int .i64 t167, .int .i64 t168, .slice Ao10 t169.length co10] 35 (0, 0)) (by (with_reducible repeat (first | refine blk_drewN ?_ _ | refine blk_drew ?_ | refine blk_alloc ?_ _)); refine Far.put6_ #[.int .i64 a0_0, .int .i64 a0_1, .int .i64 a0_2, .int .i64 a0_3, .int .i64 a0_4, .slice A0_5 l0_5.length c0_5] rfl ?_; (with_reducible repeat (first | refine blk_drewN ?_ _ | refine blk_drew ?_ | refine blk_alloc ?_ _)); exact BK162.out) hb); have n2_ := Aside0.mk (blk_below (g := gb163) (o := .cells #[.int .i64 0, .int .i64 0, .int .i64 0, .int .i64 0, .int .i64 0, .slice none 0 0] 35 (0, 0)) (by (with_reducible repeat (first | refine blk_drewN ?_ _ | refine blk_drew ?_ | refine blk_alloc ?_ _)); refine blk_far ?_ NB163_162.out _; (with_reducible repeat (first | refine blk_drewN ?_ _ | refine blk_drew ?_ | refine blk_alloc ?_ _)); refine blk_far ?_ NB163_162.out _; (with_reducible repeat (first | refine blk_drewN ?_ _ | refine blk_drew ?_ | refine blk_alloc ?_ _)); refine blk_far ?_ NB163_162.out _; (with_reducible repeat (first | refine blk_drewN ?_ _ | refine blk_drew ?_ | refine blk_alloc ?_ _)); refine blk_far ?_ NB163_162.out _; (with_reducible repeat (first | refine blk_drewN ?_ _ | refine blk_drew ?_ | refine blk_alloc ?_ _)); refine blk_far ?_ NB163_162.out _; (with_reducible repeat (first | refine blk_drewN ?_ _ | refine blk_drew ?_ | refine blk_alloc ?_ _)); refine blk_far ?_ NB163_162.out _; (with_reducible repeat (first | refine blk_drewN ?_ _ | refine blk_drew ?_ | refine blk_alloc ?_ _)); exact BK163.out) hb); have n3_ := Aside0.mk (below_step (by repeat (first | (with_reducible first | exact HB.out | apply below_alloc | apply pw_below_drewN | apply below_drew1 | refine below_set ?_ GE162.out | refine below_set ?_ GE163.out) | exact HB.out)) hb); clear HO171; clear BK162; clear BK163; clear HB; have HO171 := n0_; have BK162 := n1_; have BK163 := n2_; have HB := n3_; clear n0_ n1_ n2_ n3_; (try clear hb); (try clear hb2); (try clear hk); (try clear hi); have hcz21_0 : w20.cell? ⟨gb162, 0, none⟩ = some (.int .i64 t164) := (blk_cell BK162.out 0).trans rfl; have hcz21_1 : w20.cell? ⟨gb162, 1, none⟩ = some (.int .i64 t165) := (blk_cell BK162.out 1).trans rfl; have hcz21_2 : w20.cell? ⟨gb162, 2, none⟩ = some (.int .i64 t166) := (blk_cell BK162.out 2).trans rfl; have hcz21_3 : w20.cell? ⟨gb162, 3, none⟩ = some (.int .i64 t167) := (blk_cell BK162.out 3).trans rfl; have hcz21_4 : w20.cell? ⟨gb162, 4, none⟩ = some (.int .i64 t168) := (blk_cell BK162.out 4).trans rfl; have hcz21_5 : w20.cell? ⟨gb162, 5, none⟩ = some (.slice Ao10 t169.length co10) := (blk_cell BK162.out 5).trans rfl; have hfz21_0 := blk_frozen BK162.out 0; have hfz21_1 := blk_frozen BK162.out 1; have hfz21_2 := blk_frozen BK162.out 2; have hfz21_3 := blk_frozen BK162.out 3; have hfz21_4 := blk_frozen BK162.out 4; have hfz21_5 := blk_frozen BK162.out 5))
        go_meet
        case rel => exact ⟨_, ((t167 == 1000000000)), (by first | rfl | (simp; done) | (simp [*]; done)), H', ⟨by first | omega | exact Nat.le_refl _⟩, ⟨Kd.Q_of_R (by (with_reducible repeat (first | apply Kd.R_alloc | apply Kd.R_drewN | apply Kd.R_drew)); exact HO171.out)⟩, ⟨by (with_reducible repeat (first | refine blk_drewN ?_ _ | refine blk_drew ?_ | refine blk_alloc ?_ _)); exact BK162.out⟩, ⟨by (with_reducible repeat (first | refine blk_drewN ?_ _ | refine blk_drew ?_ | refine blk_alloc ?_ _)); exact BK163.out⟩, ⟨by repeat (first | (with_reducible first | exact HB.out | apply below_alloc | apply pw_below_drewN | apply below_drew1 | refine below_set ?_ GE162.out | refine below_set ?_ GE163.out) | exact HB.out)⟩⟩
    · replace c12 := Bool.eq_false_iff.mpr c12
      subst c12
      have H1 : (impl_Play.j0 k true t164 t165 t166 t167 t168 t169) = some (r1, r2, r3, r4, r5, r6, r7, r8) := by rw [if_neg (show ¬ (false = true) by decide)] at H; exact H
      clear H
      have H := H1
      clear H1
      have H' := Aside0.mk H
      clear H
      have hnb22 := NB162_163.out
      have hnc22 := NB163_162.out
      have hcz23_0 : w8.cell? ⟨gb162, 0, none⟩ = some (.int .i64 a0_0) := (blk_cell BK162.out 0).trans rfl
      have hcz23_1 : w8.cell? ⟨gb162, 1, none⟩ = some (.int .i64 a0_1) := (blk_cell BK162.out 1).trans rfl
      have hcz23_2 : w8.cell? ⟨gb162, 2, none⟩ = some (.int .i64 a0_2) := (blk_cell BK162.out 2).trans rfl
      have hcz23_3 : w8.cell? ⟨gb162, 3, none⟩ = some (.int .i64 a0_3) := (blk_cell BK162.out 3).trans rfl
      have hcz23_4 : w8.cell? ⟨gb162, 4, none⟩ = some (.int .i64 a0_4) := (blk_cell BK162.out 4).trans rfl
      have hcz23_5 : w8.cell? ⟨gb162, 5, none⟩ = some (.slice A0_5 l0_5.length c0_5) := (blk_cell BK162.out 5).trans rfl
      have hfz23_0 := blk_frozen BK162.out 0
      have hfz23_1 := blk_frozen BK162.out 1
      have hfz23_2 := blk_frozen BK162.out 2
      have hfz23_3 := blk_frozen BK162.out 3
      have hfz23_4 := blk_frozen BK162.out 4
      have hfz23_5 := blk_frozen BK162.out 5
      go_wp2_with (first | ((with_reducible refine gate_callee (f := 20) rfl ?_); refine goesL_ (some 11) rfl rfl Try.func20 (by kernel_rfl) rfl #[.agg #[.int .i64 t164, .int .i64 t165, .int .i64 t166, .int .i64 t167, .int .i64 t168, .slice Ao10 t169.length co10]] rfl (by (try simp only [List.map_toArray, List.map_cons, List.map_nil]); first | done | rfl | (simp only [List.length_drop, List.length_take]; rfl)) ?_; (with_reducible refine (impl_PlayerOk.calls k t164 t165 t166 t167 t168 _ _ t169 false _ ?side1 ?side2 A11.out).mono ?_); (case side1 => refine (Kd.R_reads' (e := 44) (base := w.heap.size) (ok := fun k_ => True) (n := t169.length) (c := co10) ?_).2.2; exact (by (with_reducible repeat (first | apply Kd.R_alloc | apply Kd.R_drewN | apply Kd.R_drew)); exact (Kd.R_mono (Far.rfar6_ (fun _ hk => hk.2) (Kd.R_types HO171.out BK162.out (by decide))) (fun _ h_ => h_.1)))); (case side2 => exact (Kd.R_reads' HO171.out).2.1); rintro e w24 ⟨rfl, hb⟩; refine ⟨_, rfl, ?_⟩; have n0_ := Aside0.mk (Kd.R_below (by (with_reducible repeat (first | apply Kd.R_alloc | apply Kd.R_drewN | apply Kd.R_drew)); exact (Kd.R_mono (Far.rfar6_ (fun _ hk => hk.2) (Kd.R_types HO171.out BK162.out (by decide))) (fun _ h_ => h_.1))) hb); have n1_ := Aside0.mk (blk_below (g := gb162) (o := .cells #[.int .i64 t164, .int .i64 t165, .int .i64 t166, .int .i64 t167, .int .i64 t168, .slice Ao10 t169.length co10] 35 (0, 0)) (by (with_reducible repeat (first | refine blk_drewN ?_ _ | refine blk_drew ?_ | refine blk_alloc ?_ _)); refine Far.put6_ #[.int .i64 a0_0, .int .i64 a0_1, .int .i64 a0_2, .int .i64 a0_3, .int .i64 a0_4, .slice A0_5 l0_5.length c0_5] rfl ?_; (with_reducible repeat (first | refine blk_drewN ?_ _ | refine blk_drew ?_ | refine blk_alloc ?_ _)); exact BK162.out) hb); have n2_ := Aside0.mk (blk_below (g := gb163) (o := .cells #[.int .i64 0, .int .i64 0, .int .i64 0, .int .i64 0, .int .i64 0, .slice none 0 0] 35 (0, 0)) (by (with_reducible repeat (first | refine blk_drewN ?_ _ | refine blk_drew ?_ | refine blk_alloc ?_ _)); refine blk_far ?_ NB163_162.out _; (with_reducible repeat (first | refine blk_drewN ?_ _ | refine blk_drew ?_ | refine blk_alloc ?_ _)); refine blk_far ?_ NB163_162.out _; (with_reducible repeat (first | refine blk_drewN ?_ _ | refine blk_drew ?_ | refine blk_alloc ?_ _)); refine blk_far ?_ NB163_162.out _; (with_reducible repeat (first | refine blk_drewN ?_ _ | refine blk_drew ?_ | refine blk_alloc ?_ _)); refine blk_far ?_ NB163_162.out _; (with_reducible repeat (first | refine blk_drewN ?_ _ | refine blk_drew ?_ | refine blk_alloc ?_ _)); refine blk_far ?_ NB163_162.out _; (with_reducible repeat (first | refine blk_drewN ?_ _ | refine blk_drew ?_ | refine blk_alloc ?_ _)); refine blk_far ?_ NB163_162.out _; (with_reducible repeat (first | refine blk_drewN ?_ _ | refine blk_drew ?_ | refine blk_alloc ?_ _)); exact BK163.out) hb); have n3_ := Aside0.mk (below_step (by repeat (first | (with_reducible first | exact HB.out | apply below_alloc | apply pw_below_drewN | apply below_drew1 | refine below_set ?_ GE162.out | refine below_set ?_ GE163.out) | exact HB.out)) hb); clear HO171; clear BK162; clear BK163; clear HB; have HO171 := n0_; have BK162 := n1_; have BK163 := n2_; have HB := n3_; clear n0_ n1_ n2_ n3_; (try clear hb); (try clear hb2); (try clear hk); (try clear hi)))
      go_meet
      case rel => exact ⟨_, (true), (by first | rfl | (simp; done) | (simp [*]; done)), H', ⟨by first | omega | exact Nat.le_refl _⟩, ⟨Kd.Q_of_R (by (with_reducible repeat (first | apply Kd.R_alloc | apply Kd.R_drewN | apply Kd.R_drew)); exact HO171.out)⟩, ⟨by (with_reducible repeat (first | refine blk_drewN ?_ _ | refine blk_drew ?_ | refine blk_alloc ?_ _)); exact BK162.out⟩, ⟨by (with_reducible repeat (first | refine blk_drewN ?_ _ | refine blk_drew ?_ | refine blk_alloc ?_ _)); exact BK163.out⟩, ⟨by repeat (first | (with_reducible first | exact HB.out | apply below_alloc | apply pw_below_drewN | apply below_drew1 | refine below_set ?_ GE162.out | refine below_set ?_ GE163.out) | exact HB.out)⟩⟩
  case rest =>
    clear HC3
    try clear c1
    try clear c2
    try clear p2
    try clear c3
    try clear c5
    try clear c6
    try clear c12
    try clear c13
    try clear c13b0
    try clear c13b1
    try clear c14
    try clear c18
    try clear c20
    try clear c22
    try clear hcz15_0
    try clear hcz15_1
    try clear hcz15_2
    try clear hcz15_3
    try clear hcz15_4
    try clear hcz15_5
    try clear hcz17_0
    try clear hcz17_1
    try clear hcz17_2
    try clear hcz17_3
    try clear hcz17_4
    try clear hcz17_5
    try clear hcz19_0
    try clear hcz19_1
    try clear hcz19_2
    try clear hcz19_3
    try clear hcz19_4
    try clear hcz19_5
    try clear hcz21_0
    try clear hcz21_1
    try clear hcz21_2
    try clear hcz21_3
    try clear hcz21_4
    try clear hcz21_5
    try clear hcz23_0
    try clear hcz23_1
    try clear hcz23_2
    try clear hcz23_3
    try clear hcz23_4
    try clear hcz23_5
    try clear hcz7_0
    try clear hcz7_1
    try clear hcz7_2
    try clear hcz7_3
    try clear hcz7_4
    try clear hcz7_5
    try clear hcz9_0
    try clear hcz9_1
    try clear hcz9_2
    try clear hcz9_3
    try clear hcz9_4
    try clear hcz9_5
    try clear hfz15_0
    try clear hfz15_1
    try clear hfz15_2
    try clear hfz15_3
    try clear hfz15_4
    try clear hfz15_5
    try clear hfz17_0
    try clear hfz17_1
    try clear hfz17_2
    try clear hfz17_3
    try clear hfz17_4
    try clear hfz17_5
    try clear hfz19_0
    try clear hfz19_1
    try clear hfz19_2
    try clear hfz19_3
    try clear hfz19_4
    try clear hfz19_5
    try clear hfz21_0
    try clear hfz21_1
    try clear hfz21_2
    try clear hfz21_3
    try clear hfz21_4
    try clear hfz21_5
    try clear hfz23_0
    try clear hfz23_1
    try clear hfz23_2
    try clear hfz23_3
    try clear hfz23_4
    try clear hfz23_5
    try clear hfz7_0
    try clear hfz7_1
    try clear hfz7_2
    try clear hfz7_3
    try clear hfz7_4
    try clear hfz7_5
    try clear hfz9_0
    try clear hfz9_1
    try clear hfz9_2
    try clear hfz9_3
    try clear hfz9_4
    try clear hfz9_5
    obtain ⟨kq, x22_2, rfl, HA, HJ2, HO_163005, BK162, BK163, HB⟩ := hcut
    cases kq with
    | zero => exact absurd HA.out (by simp [impl_Play.j0])
    | succ kj2 =>
      have H := HA.out
      clear HA
      simp only [impl_Play.j0] at H
      by_cases c25 : x22_2 = true
      · subst c25
        have H1 : (some (t164, t165, t166, t167, t168, t169, ([] : List Int), false)) = some (r1, r2, r3, r4, r5, r6, r7, r8) := by rw [if_pos rfl] at H; exact H
        clear H
        have H := H1
        clear H1
        simp only [Option.some.injEq, Prod.mk.injEq] at H
        obtain ⟨rfl, rfl, rfl, rfl, rfl, rfl, rfl, rfl⟩ := H
        have hnb26 := NB162_163.out
        have hnc26 := NB163_162.out
        have hcz27_0 : wc.cell? ⟨gb162, 0, none⟩ = some (.int .i64 t164) := (blk_cell BK162.out 0).trans rfl
        have hcz27_1 : wc.cell? ⟨gb162, 1, none⟩ = some (.int .i64 t165) := (blk_cell BK162.out 1).trans rfl
        have hcz27_2 : wc.cell? ⟨gb162, 2, none⟩ = some (.int .i64 t166) := (blk_cell BK162.out 2).trans rfl
        have hcz27_3 : wc.cell? ⟨gb162, 3, none⟩ = some (.int .i64 t167) := (blk_cell BK162.out 3).trans rfl
        have hcz27_4 : wc.cell? ⟨gb162, 4, none⟩ = some (.int .i64 t168) := (blk_cell BK162.out 4).trans rfl
        have hcz27_5 : wc.cell? ⟨gb162, 5, none⟩ = some (.slice Ao10 t169.length co10) := (blk_cell BK162.out 5).trans rfl
        have hfz27_0 := blk_frozen BK162.out 0
        have hfz27_1 := blk_frozen BK162.out 1
        have hfz27_2 := blk_frozen BK162.out 2
        have hfz27_3 := blk_frozen BK162.out 3
        have hfz27_4 := blk_frozen BK162.out 4
        have hfz27_5 := blk_frozen BK162.out 5
        have hcz28_0 : wc.cell? ⟨gb163, 0, none⟩ = some (.int .i64 0) := (blk_cell BK163.out 0).trans rfl
        have hcz28_1 : wc.cell? ⟨gb163, 1, none⟩ = some (.int .i64 0) := (blk_cell BK163.out 1).trans rfl
        have hcz28_2 : wc.cell? ⟨gb163, 2, none⟩ = some (.int .i64 0) := (blk_cell BK163.out 2).trans rfl
        have hcz28_3 : wc.cell? ⟨gb163, 3, none⟩ = some (.int .i64 0) := (blk_cell BK163.out 3).trans rfl
        have hcz28_4 : wc.cell? ⟨gb163, 4, none⟩ = some (.int .i64 0) := (blk_cell BK163.out 4).trans rfl
        have hcz28_5 : wc.cell? ⟨gb163, 5, none⟩ = some (.slice none 0 0) := (blk_cell BK163.out 5).trans rfl
        have hfz28_0 := blk_frozen BK163.out 0
        have hfz28_1 := blk_frozen BK163.out 1
        have hfz28_2 := blk_frozen BK163.out 2
        have hfz28_3 := blk_frozen BK163.out 3
        have hfz28_4 := blk_frozen BK163.out 4
        have hfz28_5 := blk_frozen BK163.out 5
        go_wp2
        refine bodyPost_ret (results_ctt rfl _ _ gb163 35 #[.int .i64 t164, .int .i64 t165, .int .i64 t166, .int .i64 t167, .int .i64 t168, .slice Ao10 t169.length co10] (0, 0) _ rfl (by (with_reducible repeat (first | refine blk_drewN ?_ _ | refine blk_drew ?_ | refine blk_alloc ?_ _)); refine Far.put6_ #[.int .i64 0, .int .i64 0, .int .i64 0, .int .i64 0, .int .i64 0, .slice none 0 0] rfl ?_; (with_reducible repeat (first | refine blk_drewN ?_ _ | refine blk_drew ?_ | refine blk_alloc ?_ _)); exact BK163.out) Try.underlying35 rfl (by kernel_rfl)) rfl ?_
        exact ⟨_, _, by first | rfl | (simp [errW_none, errW_some] <;> rfl) | (simp [*, errW_none, errW_some] <;> rfl), by (with_reducible repeat (first | apply Kd.Q_alloc | apply Kd.Q_drewN | apply Kd.Q_drew)); exact Kd.Q_mono (Far.qfar6_ (fun _ hk => hk.2) (Kd.Q_types HO_163005.out BK163.out (by decide))) (fun _ hk => trivial), by first | exact Kd.R_nil _ _ _ _ _ | exact Kd.N_nil _ _ _ _ _ | exact Kd.V_nil _ _ _ _ _ | exact Kd.Q_nil _ _ _ _ _ | exact Kd.S_nil _ _ _ _ _, by repeat (first | (with_reducible first | exact HB.out | apply below_alloc | apply pw_below_drewN | apply below_drew1 | refine below_set ?_ GE162.out | refine below_set ?_ GE163.out) | exact HB.out)⟩
      · replace c25 := Bool.eq_false_iff.mpr c25
        subst c25
        have H1 : (if (t169.length : Int) > 0 then (if 0 < (t169.length : Int) then (impl_Play.j1 kj2 ([] : List Int) false (((rd_T44 t169 0).f1) == t164) t164 t165 t166 t167 t168 t169) else (none)) else (impl_Play.j1 kj2 ([] : List Int) false false t164 t165 t166 t167 t168 t169)) = some (r1, r2, r3, r4, r5, r6, r7, r8) := by rw [if_neg (show ¬ (false = true) by decide)] at H; exact H
        clear H
        have H := H1
        clear H1
        have HC29 := Aside0.mk H
        clear H
        go_upto_region 6 with (fail)
        go_cut [37] (fun v37 wc => ∃ (kq : Nat) (x37_28 : Bool), v37 = .bool x37_28 ∧ Aside0 (impl_Play.j1 kq ([] : List Int) false x37_28 t164 t165 t166 t167 t168 t169 = some (r1, r2, r3, r4, r5, r6, r7, r8)) ∧ Aside0 (kq ≤ kj2) ∧ Aside0 (Kd.R (Kd.int .i64) 3 wc w.heap.size (fun _ => True) (.slice none 0 0) ([] : List Int)) ∧ Aside0 (Kd.Q k44 44 wc w.heap.size (fun _ => True) (.slice Ao10 t169.length co10) t169) ∧ Aside0 (wc.heap[gb162]? = some (.cells #[.int .i64 t164, .int .i64 t165, .int .i64 t166, .int .i64 t167, .int .i64 t168, (.slice Ao10 t169.length co10)] 35 (0, 0))) ∧ Aside0 (wc.heap[gb163]? = some (.cells #[.int .i64 0, .int .i64 0, .int .i64 0, .int .i64 0, .int .i64 0, (.slice none 0 0)] 35 (0, 0))) ∧ Aside0 (Below w.heap.size w wc))
        case first =>
          have H := HC29.out
          clear HC29
          by_cases c30 : (t169.length : Int) > 0
          · rw [if_pos c30] at H
            have c30b0 : decide (0 < (t169.length : Int)) = true := decide_eq_true c30
            have c30b1 : decide (0 < t169.length) = true := decide_eq_true (by omega)
            clear c30
            (first | rw [c30b0] | (simp only [i64_w, i32_w]; rw [c30b0]) | (rw [c30b2]; try simp only [Bool.not_false, Bool.not_true]) | skip)
            by_cases c31 : 0 < (t169.length : Int)
            · rw [if_pos c31] at H
              have c31b0 : decide (0 < (t169.length : Int)) = true := decide_eq_true c31
              have c31b1 : decide (0 < t169.length) = true := decide_eq_true (by omega)
              clear c31
              have H' := Aside0.mk H
              clear H
              try go_wp2
              have n0_ := Aside0.mk (Kd.Q_drew HO_163005.out)
              have n1_ := Aside0.mk (blk_drew BK162.out)
              have n2_ := Aside0.mk (blk_drew BK163.out)
              have n3_ := Aside0.mk (below_drew1 HB.out)
              clear HO_163005
              clear BK162
              clear BK163
              clear HB
              have HO_163005 := n0_
              have BK162 := n1_
              have BK163 := n2_
              have HB := n3_
              clear n0_ n1_ n2_ n3_
              have p173 : 0 ≤ (0 : Int) := (by omega)
              have q173 : 0 < (t169.length : Int) := of_decide_eq_true (by first | (with_reducible assumption) | assumption)
              obtain ⟨ad173, e173, hx173_0, hx173_1, hx173_2, hx173_3, hx173_4, hx173_5, hx173_6, hx173_7, hx173_8, hx173_9, hx173_10, hx173_11, hx173_12, hx173_13, hx173_14, hx173_15, hx173_16, hx173_17⟩ := at_T44 (Kd.Q_reads' HO_163005.out).2.2 0 p173 q173
              cases e173
              have qi173 : (0 < t169.length) = True := eq_true (by omega)
              (try rw [show ((0 : Int)).toNat = 0 from rfl] at hx173_0)
              (try rw [show 0 * 18 = 0 from rfl] at hx173_0)
              (try rw [Addr.add_zero'] at hx173_0)
              (try rw [show ((0 : Int)).toNat = 0 from rfl] at hx173_1)
              (try rw [show 0 * 18 = 0 from rfl] at hx173_1)
              (try rw [Addr.add_zero'] at hx173_1)
              (try rw [show ((0 : Int)).toNat = 0 from rfl] at hx173_2)
              (try rw [show 0 * 18 = 0 from rfl] at hx173_2)
              (try rw [Addr.add_zero'] at hx173_2)
              (try rw [show ((0 : Int)).toNat = 0 from rfl] at hx173_3)
              (try rw [show 0 * 18 = 0 from rfl] at hx173_3)
              (try rw [Addr.add_zero'] at hx173_3)
              (try rw [show ((0 : Int)).toNat = 0 from rfl] at hx173_4)
              (try rw [show 0 * 18 = 0 from rfl] at hx173_4)
              (try rw [Addr.add_zero'] at hx173_4)
              (try rw [show ((0 : Int)).toNat = 0 from rfl] at hx173_5)
              (try rw [show 0 * 18 = 0 from rfl] at hx173_5)
              (try rw [Addr.add_zero'] at hx173_5)
              (try rw [show ((0 : Int)).toNat = 0 from rfl] at hx173_6)
              (try rw [show 0 * 18 = 0 from rfl] at hx173_6)
              (try rw [Addr.add_zero'] at hx173_6)
              (try rw [show ((0 : Int)).toNat = 0 from rfl] at hx173_7)
              (try rw [show 0 * 18 = 0 from rfl] at hx173_7)
              (try rw [Addr.add_zero'] at hx173_7)
              (try rw [show ((0 : Int)).toNat = 0 from rfl] at hx173_8)
              (try rw [show 0 * 18 = 0 from rfl] at hx173_8)
              (try rw [Addr.add_zero'] at hx173_8)
              (try rw [show ((0 : Int)).toNat = 0 from rfl] at hx173_9)
              (try rw [show 0 * 18 = 0 from rfl] at hx173_9)
              (try rw [Addr.add_zero'] at hx173_9)
              (try rw [show ((0 : Int)).toNat = 0 from rfl] at hx173_10)
              (try rw [show 0 * 18 = 0 from rfl] at hx173_10)
              (try rw [Addr.add_zero'] at hx173_10)
              (try rw [show ((0 : Int)).toNat = 0 from rfl] at hx173_11)
              (try rw [show 0 * 18 = 0 from rfl] at hx173_11)
              (try rw [Addr.add_zero'] at hx173_11)
              (try rw [show ((0 : Int)).toNat = 0 from rfl] at hx173_12)
              (try rw [show 0 * 18 = 0 from rfl] at hx173_12)
              (try rw [Addr.add_zero'] at hx173_12)
              (try rw [show ((0 : Int)).toNat = 0 from rfl] at hx173_13)
              (try rw [show 0 * 18 = 0 from rfl] at hx173_13)
              (try rw [Addr.add_zero'] at hx173_13)
              (try rw [show ((0 : Int)).toNat = 0 from rfl] at hx173_14)
              (try rw [show 0 * 18 = 0 from rfl] at hx173_14)
              (try rw [Addr.add_zero'] at hx173_14)
              (try rw [show ((0 : Int)).toNat = 0 from rfl] at hx173_15)
              (try rw [show 0 * 18 = 0 from rfl] at hx173_15)
              (try rw [Addr.add_zero'] at hx173_15)
              (try rw [show ((0 : Int)).toNat = 0 from rfl] at hx173_16)
              (try rw [show 0 * 18 = 0 from rfl] at hx173_16)
              (try rw [Addr.add_zero'] at hx173_16)
              (try rw [show ((0 : Int)).toNat = 0 from rfl] at hx173_17)
              (try rw [show 0 * 18 = 0 from rfl] at hx173_17)
              (try rw [Addr.add_zero'] at hx173_17)
              replace p173 := eq_true p173
              replace q173 := eq_true q173
              refine start_ (n := 14) (S := fun w' => w'.cell? ⟨gb162, 0, none⟩ = some (.int .i64 t164) ∧ w'.cell? ⟨gb162, 1, none⟩ = some (.int .i64 t165) ∧ w'.cell? ⟨gb162, 2, none⟩ = some (.int .i64 t166) ∧ w'.cell? ⟨gb162, 3, none⟩ = some (.int .i64 t167) ∧ w'.cell? ⟨gb162, 4, none⟩ = some (.int .i64 t168) ∧ w'.cell? ⟨gb162, 5, none⟩ = some (.slice (some ad173) t169.length co10) ∧ w'.cell? ad173 = some (.int .i64 ((rd_T44 t169 0).f0)) ∧ w'.cell? ⟨ad173.block, ad173.off + 1, none⟩ = some (.int .i64 ((rd_T44 t169 0).f1)) ∧ w'.cell? ⟨ad173.block, ad173.off + 2, none⟩ = some (.int .u8 ((rd_T44 t169 0).f2.f0)) ∧ w'.cell? ⟨ad173.block, ad173.off + 3, none⟩ = some (.int .u8 ((rd_T44 t169 0).f2.f1)) ∧ w'.cell? ⟨ad173.block, ad173.off + 4, none⟩ = some (.int .u8 ((rd_T44 t169 0).f2.f2)) ∧ w'.cell? ⟨ad173.block, ad173.off + 5, none⟩ = some (.int .u8 ((rd_T44 t169 0).f2.f3)) ∧ w'.cell? ⟨ad173.block, ad173.off + 6, none⟩ = some (.int .u8 ((rd_T44 t169 0).f2.f4)) ∧ w'.cell? ⟨ad173.block, ad173.off + 7, none⟩ = some (.int .u8 ((rd_T44 t169 0).f2.f5)) ∧ w'.cell? ⟨ad173.block, ad173.off + 8, none⟩ = some (.int .u8 ((rd_T44 t169 0).f2.f6)) ∧ w'.cell? ⟨ad173.block, ad173.off + 9, none⟩ = some (.int .u8 ((rd_T44 t169 0).f2.f7)) ∧ w'.cell? ⟨ad173.block, ad173.off + 10, none⟩ = some (.int .u8 ((rd_T44 t169 0).f2.f8)) ∧ w'.cell? ⟨ad173.block, ad173.off + 11, none⟩ = some (.int .u8 ((rd_T44 t169 0).f2.f9)) ∧ w'.cell? ⟨ad173.block, ad173.off + 12, none⟩ = some (.int .u8 ((rd_T44 t169 0).f2.f10)) ∧ w'.cell? ⟨ad173.block, ad173.off + 13, none⟩ = some (.int .u8 ((rd_T44 t169 0).f2.f11)) ∧ w'.cell? ⟨ad173.block, ad173.off + 14, none⟩ = some (.int .u8 ((rd_T44 t169 0).f2.f12)) ∧ w'.cell? ⟨ad173.block, ad173.off + 15, none⟩ = some (.int .u8 ((rd_T44 t169 0).f2.f13)) ∧ w'.cell? ⟨ad173.block, ad173.off + 16, none⟩ = some (.int .u8 ((rd_T44 t169 0).f2.f14)) ∧ w'.cell? ⟨ad173.block, ad173.off + 17, none⟩ = some (.int .u8 ((rd_T44 t169 0).f2.f15))) (ds := []) #[false, false, false, false, false, false, false, false, false, false, false, false, false, false] (by kernel_rfl) rfl rfl ⟨(blk_cell BK162.out 0).trans rfl, (blk_cell BK162.out 1).trans rfl, (blk_cell BK162.out 2).trans rfl, (blk_cell BK162.out 3).trans rfl, (blk_cell BK162.out 4).trans rfl, (blk_cell BK162.out 5).trans rfl, hx173_0, hx173_1, hx173_2, hx173_3, hx173_4, hx173_5, hx173_6, hx173_7, hx173_8, hx173_9, hx173_10, hx173_11, hx173_12, hx173_13, hx173_14, hx173_15, hx173_16, hx173_17⟩ (fun hHeld => ?_); refine with_tabW impl_Play.tab6 impl_Play.bits6 (fun HT_ HW_ => ?_)
              generalize wc.drew = w32 at HO_163005 BK162 BK163 HB hx173_0 hx173_1 hx173_10 hx173_11 hx173_12 hx173_13 hx173_14 hx173_15 hx173_16 hx173_17 hx173_2 hx173_3 hx173_4 hx173_5 hx173_6 hx173_7 hx173_8 hx173_9 hHeld ⊢
              refine pure_ (i := 0) (N := some 24) (v := ?_) (a' := ?_) #[true, false, false, false, false, false, false, false, false, false, false, false, false, false] rfl rfl (any_of HT_.out (by kernel_rfl)) (fun _ _ _ h => h) (Or.inl ⟨by rfl, ?_⟩) ?_ ?_
              rotate_left
              · intro w'
                go_simp
                with_reducible rfl
              rotate_left
              · simp only [Act.put, List.setIfInBounds_toArray, List.set_cons_zero, List.set_cons_succ, i64_w, i32_w]
                rfl
              refine take_ (i := 1) (N := some 25) (v := ?_) (a' := ?_) #[true, true, false, false, false, false, false, false, false, false, false, false, false, false] rfl rfl (take_ofW HT_.out HW_.out (by kernel_rfl)) (fun _ _ _ h => h) (Or.inl ⟨by rfl, ?_⟩) hHeld ?_ ?_
              rotate_left
              · rintro w' ⟨s0, s1, s2, s3, s4, s5, s6, s7, s8, s9, s10, s11, s12, s13, s14, s15, s16, s17, s18, s19, s20, s21, s22, s23⟩
                go_simp
                with_reducible rfl
              rotate_left
              · simp only [Act.put, List.setIfInBounds_toArray, List.set_cons_zero, List.set_cons_succ, i64_w, i32_w]
                rfl
              refine pure_ (i := 2) (N := some 26) (v := ?_) (a' := ?_) #[true, true, true, false, false, false, false, false, false, false, false, false, false, false] rfl rfl (any_of HT_.out (by kernel_rfl)) (fun _ _ _ h => h) (Or.inl ⟨by rfl, ?_⟩) ?_ ?_
              rotate_left
              · intro w'
                go_simp
                with_reducible rfl
              rotate_left
              · simp only [Act.put, List.setIfInBounds_toArray, List.set_cons_zero, List.set_cons_succ, i64_w, i32_w]
                rfl
              refine pure_ (i := 3) (N := some 27) (v := ?_) (a' := ?_) #[true, true, true, true, false, false, false, false, false, false, false, false, false, false] rfl rfl (any_of HT_.out (by kernel_rfl)) (fun _ _ _ h => h) (Or.inl ⟨by rfl, ?_⟩) ?_ ?_
              rotate_left
              · intro w'
                go_simp
                with_reducible rfl
              rotate_left
              · simp only [Act.put, List.setIfInBounds_toArray, List.set_cons_zero, List.set_cons_succ, i64_w, i32_w]
                rfl
              refine pure_ (i := 4) (N := some 28) (v := ?_) (a' := ?_) #[true, true, true, true, true, false, false, false, false, false, false, false, false, false] rfl rfl (any_of HT_.out (by kernel_rfl)) (fun _ _ _ h => h) (Or.inl ⟨by rfl, ?_⟩) ?_ ?_
              rotate_left
              · intro w'
                go_simp
                with_reducible rfl
              rotate_left
              · simp only [Act.put, List.setIfInBounds_toArray, List.set_cons_zero, List.set_cons_succ, i64_w, i32_w]
                rfl
              refine pure_ (i := 5) (N := some 29) (v := ?_) (a' := ?_) #[true, true, true, true, true, true, false, false, false, false, false, false, false, false] rfl rfl (any_of HT_.out (by kernel_rfl)) (fun _ _ _ h => h) (Or.inl ⟨by rfl, ?_⟩) ?_ ?_
              rotate_left
              · intro w'
                go_simp
                with_reducible rfl
              rotate_left
              · simp only [Act.put, List.setIfInBounds_toArray, List.set_cons_zero, List.set_cons_succ, i64_w, i32_w]
                rfl
              refine pure_ (i := 10) (N := some 34) (v := ?_) (a' := ?_) #[true, true, true, true, true, true, false, false, false, false, true, false, false, false] rfl rfl (any_of HT_.out (by kernel_rfl)) (fun _ _ _ h => h) (Or.inl ⟨by rfl, ?_⟩) ?_ ?_
              rotate_left
              · intro w'
                go_simp
                with_reducible rfl
              rotate_left
              · simp only [Act.put, List.setIfInBounds_toArray, List.set_cons_zero, List.set_cons_succ, i64_w, i32_w]
                rfl
              refine take_ (i := 6) (N := some 30) (v := ?_) (a' := ?_) #[true, true, true, true, true, true, true, false, false, false, true, false, false, false] rfl rfl (take_ofW HT_.out HW_.out (by kernel_rfl)) (fun _ _ _ h => h) (Or.inl ⟨by rfl, ?_⟩) hHeld ?_ ?_
              rotate_left
              · rintro w' ⟨s0, s1, s2, s3, s4, s5, s6, s7, s8, s9, s10, s11, s12, s13, s14, s15, s16, s17, s18, s19, s20, s21, s22, s23⟩
                go_simp
                with_reducible rfl
              rotate_left
              · simp only [Act.put, List.setIfInBounds_toArray, List.set_cons_zero, List.set_cons_succ, i64_w, i32_w]
                rfl
              refine pure_ (i := 7) (N := some 31) (v := ?_) (a' := ?_) #[true, true, true, true, true, true, true, true, false, false, true, false, false, false] rfl rfl (any_of HT_.out (by kernel_rfl)) (fun _ _ _ h => h) (Or.inl ⟨by rfl, ?_⟩) ?_ ?_
              rotate_left
              · intro w'
                go_simp
                with_reducible rfl
              rotate_left
              · simp only [Act.put, List.setIfInBounds_toArray, List.set_cons_zero, List.set_cons_succ, i64_w, i32_w]
                rfl
              refine pure_ (i := 8) (N := some 32) (v := ?_) (a' := ?_) #[true, true, true, true, true, true, true, true, true, false, true, false, false, false] rfl rfl (any_of HT_.out (by kernel_rfl)) (fun _ _ _ h => h) (Or.inl ⟨by rfl, ?_⟩) ?_ ?_
              rotate_left
              · intro w'
                go_simp
                with_reducible rfl
              rotate_left
              · simp only [Act.put, List.setIfInBounds_toArray, List.set_cons_zero, List.set_cons_succ, i64_w, i32_w]
                rfl
              refine take_ (i := 9) (N := some 33) (v := ?_) (a' := ?_) #[true, true, true, true, true, true, true, true, true, true, true, false, false, false] rfl rfl (take_ofW HT_.out HW_.out (by kernel_rfl)) (fun _ _ _ h => h) (Or.inl ⟨by rfl, ?_⟩) hHeld ?_ ?_
              rotate_left
              · rintro w' ⟨s0, s1, s2, s3, s4, s5, s6, s7, s8, s9, s10, s11, s12, s13, s14, s15, s16, s17, s18, s19, s20, s21, s22, s23⟩
                go_simp
                with_reducible rfl
              rotate_left
              · simp only [Act.put, List.setIfInBounds_toArray, List.set_cons_zero, List.set_cons_succ, i64_w, i32_w]
                rfl
              refine take_ (i := 11) (N := some 35) (v := ?_) (a' := ?_) #[true, true, true, true, true, true, true, true, true, true, true, true, false, false] rfl rfl (take_ofW HT_.out HW_.out (by kernel_rfl)) (fun _ _ _ h => h) (Or.inl ⟨by rfl, ?_⟩) hHeld ?_ ?_
              rotate_left
              · rintro w' ⟨s0, s1, s2, s3, s4, s5, s6, s7, s8, s9, s10, s11, s12, s13, s14, s15, s16, s17, s18, s19, s20, s21, s22, s23⟩
                go_simp
                with_reducible rfl
              rotate_left
              · simp only [Act.put, List.setIfInBounds_toArray, List.set_cons_zero, List.set_cons_succ, i64_w, i32_w]
                rfl
              refine pure_ (i := 12) (N := some 36) (v := ?_) (a' := ?_) #[true, true, true, true, true, true, true, true, true, true, true, true, true, false] rfl rfl (any_of HT_.out (by kernel_rfl)) (fun _ _ _ h => h) (Or.inl ⟨by rfl, ?_⟩) ?_ ?_
              rotate_left
              · intro w'
                go_simp
                with_reducible rfl
              rotate_left
              · simp only [Act.put, List.setIfInBounds_toArray, List.set_cons_zero, List.set_cons_succ, i64_w, i32_w]
                rfl
              refine pure_ (i := 13) (N := some 37) (v := ?_) (a' := ?_) #[true, true, true, true, true, true, true, true, true, true, true, true, true, true] rfl rfl (any_of HT_.out (by kernel_rfl)) (fun _ _ _ h => h) (Or.inl ⟨by rfl, ?_⟩) ?_ ?_
              rotate_left
              · intro w'
                go_simp
                with_reducible rfl
              rotate_left
              · simp only [Act.put, List.setIfInBounds_toArray, List.set_cons_zero, List.set_cons_succ, i64_w, i32_w]
                rfl
              refine done_ (done_of HT_.out (by kernel_rfl)) ?_
              try go_wp2
              go_meet
              case rel => exact ⟨_, ((((rd_T44 t169 0).f1) == t164)), (by first | rfl | (simp; done) | (simp [*]; done)), H', ⟨by have := HJ2.out; first | omega | exact Nat.le_refl _⟩, ⟨by first | exact Kd.R_nil _ _ _ _ _ | exact Kd.N_nil _ _ _ _ _ | exact Kd.V_nil _ _ _ _ _ | exact Kd.Q_nil _ _ _ _ _ | exact Kd.S_nil _ _ _ _ _⟩, ⟨by (with_reducible repeat (first | apply Kd.Q_alloc | apply Kd.Q_drewN | apply Kd.Q_drew)); exact HO_163005.out⟩, ⟨by (with_reducible repeat (first | refine blk_drewN ?_ _ | refine blk_drew ?_ | refine blk_alloc ?_ _)); exact BK162.out⟩, ⟨by (with_reducible repeat (first | refine blk_drewN ?_ _ | refine blk_drew ?_ | refine blk_alloc ?_ _)); exact BK163.out⟩, ⟨by repeat (first | (with_reducible first | exact HB.out | apply below_alloc | apply pw_below_drewN | apply below_drew1 | refine below_set ?_ GE162.out | refine below_set ?_ GE163.out) | exact HB.out)⟩⟩
            · rw [if_neg c31] at H
              exact absurd H (by simp)
          · rw [if_neg c30] at H
            have c30b0 : decide (0 < (t169.length : Int)) = false := decide_eq_false c30
            have c30b1 : decide (0 < t169.length) = false := decide_eq_false (by omega)
            clear c30
            (first | rw [c30b0] | (simp only [i64_w, i32_w]; rw [c30b0]) | (rw [c30b2]; try simp only [Bool.not_false, Bool.not_true]) | skip)
            have H' := Aside0.mk H
            clear H
            try go_wp2
            have n0_ := Aside0.mk (Kd.Q_drew HO_163005.out)
            have n1_ := Aside0.mk (blk_drew BK162.out)
            have n2_ := Aside0.mk (blk_drew BK163.out)
            have n3_ := Aside0.mk (below_drew1 HB.out)
            clear HO_163005
            clear BK162
            clear BK163
            clear HB
            have HO_163005 := n0_
            have BK162 := n1_
            have BK163 := n2_
            have HB := n3_
            clear n0_ n1_ n2_ n3_
            refine start_ (n := 14) (S := fun w' => w'.cell? ⟨gb162, 0, none⟩ = some (.int .i64 t164) ∧ w'.cell? ⟨gb162, 1, none⟩ = some (.int .i64 t165) ∧ w'.cell? ⟨gb162, 2, none⟩ = some (.int .i64 t166) ∧ w'.cell? ⟨gb162, 3, none⟩ = some (.int .i64 t167) ∧ w'.cell? ⟨gb162, 4, none⟩ = some (.int .i64 t168) ∧ w'.cell? ⟨gb162, 5, none⟩ = some (.slice Ao10 t169.length co10)) (ds := []) #[false, false, false, false, false, false, false, false, false, false, false, false, false, false] (by kernel_rfl) rfl rfl ⟨(blk_cell BK162.out 0).trans rfl, (blk_cell BK162.out 1).trans rfl, (blk_cell BK162.out 2).trans rfl, (blk_cell BK162.out 3).trans rfl, (blk_cell BK162.out 4).trans rfl, (blk_cell BK162.out 5).trans rfl⟩ (fun hHeld => ?_); refine with_tabW impl_Play.tab6 impl_Play.bits6 (fun HT_ HW_ => ?_)
            generalize wc.drew = w33 at HO_163005 BK162 BK163 HB hHeld ⊢
            refine pure_ (i := 0) (N := some 24) (v := ?_) (a' := ?_) #[true, false, false, false, false, false, false, false, false, false, false, false, false, false] rfl rfl (any_of HT_.out (by kernel_rfl)) (fun _ _ _ h => h) (Or.inl ⟨by rfl, ?_⟩) ?_ ?_
            rotate_left
            · intro w'
              go_simp
              with_reducible rfl
            rotate_left
            · simp only [Act.put, List.setIfInBounds_toArray, List.set_cons_zero, List.set_cons_succ, i64_w, i32_w]
              rfl
            refine take_ (i := 1) (N := some 25) (v := ?_) (a' := ?_) #[true, true, false, false, false, false, false, false, false, false, false, false, false, false] rfl rfl (take_ofW HT_.out HW_.out (by kernel_rfl)) (fun _ _ _ h => h) (Or.inl ⟨by rfl, ?_⟩) hHeld ?_ ?_
            rotate_left
            · rintro w' ⟨s0, s1, s2, s3, s4, s5⟩
              go_simp
              with_reducible rfl
            rotate_left
            · simp only [Act.put, List.setIfInBounds_toArray, List.set_cons_zero, List.set_cons_succ, i64_w, i32_w]
              rfl
            refine pure_ (i := 2) (N := some 26) (v := ?_) (a' := ?_) #[true, true, true, false, false, false, false, false, false, false, false, false, false, false] rfl rfl (any_of HT_.out (by kernel_rfl)) (fun _ _ _ h => h) (Or.inl ⟨by rfl, ?_⟩) ?_ ?_
            rotate_left
            · intro w'
              go_simp
              with_reducible rfl
            rotate_left
            · simp only [Act.put, List.setIfInBounds_toArray, List.set_cons_zero, List.set_cons_succ, i64_w, i32_w]
              rfl
            refine pure_ (i := 3) (N := some 27) (v := ?_) (a' := ?_) #[true, true, true, true, false, false, false, false, false, false, false, false, false, false] rfl rfl (any_of HT_.out (by kernel_rfl)) (fun _ _ _ h => h) (Or.inl ⟨by rfl, ?_⟩) ?_ ?_
            rotate_left
            · intro w'
              go_simp
              with_reducible rfl
            rotate_left
            · simp only [Act.put, List.setIfInBounds_toArray, List.set_cons_zero, List.set_cons_succ, i64_w, i32_w]
              rfl
            refine pure_ (i := 4) (N := some 28) (v := ?_) (a' := ?_) #[true, true, true, true, true, false, false, false, false, false, false, false, false, false] rfl rfl (any_of HT_.out (by kernel_rfl)) (fun _ _ _ h => h) (Or.inl ⟨by rfl, ?_⟩) ?_ ?_
            rotate_left
            · intro w'
              go_simp
              with_reducible rfl
            rotate_left
            · simp only [Act.put, List.setIfInBounds_toArray, List.set_cons_zero, List.set_cons_succ, i64_w, i32_w]
              rfl
            refine pure_ (i := 5) (N := some 29) (v := undef) (a' := ?_) #[true, true, true, true, true, true, false, false, false, false, false, false, false, false] rfl rfl (any_of HT_.out (by kernel_rfl)) (fun _ _ _ h => h) (Or.inr ⟨by rfl, rfl⟩) ?_ ?_
            rotate_left
            · simp only [Act.put, List.setIfInBounds_toArray, List.set_cons_zero, List.set_cons_succ, i64_w, i32_w]
              rfl
            refine pure_ (i := 6) (N := some 30) (v := undef) (a' := ?_) #[true, true, true, true, true, true, true, false, false, false, false, false, false, false] rfl rfl (any_of HT_.out (by kernel_rfl)) (fun _ _ _ h => h) (Or.inr ⟨by rfl, rfl⟩) ?_ ?_
            rotate_left
            · simp only [Act.put, List.setIfInBounds_toArray, List.set_cons_zero, List.set_cons_succ, i64_w, i32_w]
              rfl
            refine pure_ (i := 7) (N := some 31) (v := undef) (a' := ?_) #[true, true, true, true, true, true, true, true, false, false, false, false, false, false] rfl rfl (any_of HT_.out (by kernel_rfl)) (fun _ _ _ h => h) (Or.inr ⟨by rfl, rfl⟩) ?_ ?_
            rotate_left
            · simp only [Act.put, List.setIfInBounds_toArray, List.set_cons_zero, List.set_cons_succ, i64_w, i32_w]
              rfl
            refine pure_ (i := 8) (N := some 32) (v := undef) (a' := ?_) #[true, true, true, true, true, true, true, true, true, false, false, false, false, false] rfl rfl (any_of HT_.out (by kernel_rfl)) (fun _ _ _ h => h) (Or.inr ⟨by rfl, rfl⟩) ?_ ?_
            rotate_left
            · simp only [Act.put, List.setIfInBounds_toArray, List.set_cons_zero, List.set_cons_succ, i64_w, i32_w]
              rfl
            refine pure_ (i := 9) (N := some 33) (v := undef) (a' := ?_) #[true, true, true, true, true, true, true, true, true, true, false, false, false, false] rfl rfl (any_of HT_.out (by kernel_rfl)) (fun _ _ _ h => h) (Or.inr ⟨by rfl, rfl⟩) ?_ ?_
            rotate_left
            · simp only [Act.put, List.setIfInBounds_toArray, List.set_cons_zero, List.set_cons_succ, i64_w, i32_w]
              rfl
            refine pure_ (i := 10) (N := some 34) (v := undef) (a' := ?_) #[true, true, true, true, true, true, true, true, true, true, true, false, false, false] rfl rfl (any_of HT_.out (by kernel_rfl)) (fun _ _ _ h => h) (Or.inr ⟨by rfl, rfl⟩) ?_ ?_
            rotate_left
            · simp only [Act.put, List.setIfInBounds_toArray, List.set_cons_zero, List.set_cons_succ, i64_w, i32_w]
              rfl
            refine pure_ (i := 11) (N := some 35) (v := undef) (a' := ?_) #[true, true, true, true, true, true, true, true, true, true, true, true, false, false] rfl rfl (any_of HT_.out (by kernel_rfl)) (fun _ _ _ h => h) (Or.inr ⟨by rfl, rfl⟩) ?_ ?_
            rotate_left
            · simp only [Act.put, List.setIfInBounds_toArray, List.set_cons_zero, List.set_cons_succ, i64_w, i32_w]
              rfl
            refine pure_ (i := 12) (N := some 36) (v := undef) (a' := ?_) #[true, true, true, true, true, true, true, true, true, true, true, true, true, false] rfl rfl (any_of HT_.out (by kernel_rfl)) (fun _ _ _ h => h) (Or.inr ⟨by rfl, rfl⟩) ?_ ?_
            rotate_left
            · simp only [Act.put, List.setIfInBounds_toArray, List.set_cons_zero, List.set_cons_succ, i64_w, i32_w]
              rfl
            refine pure_ (i := 13) (N := some 37) (v := ?_) (a' := ?_) #[true, true, true, true, true, true, true, true, true, true, true, true, true, true] rfl rfl (any_of HT_.out (by kernel_rfl)) (fun _ _ _ h => h) (Or.inl ⟨by rfl, ?_⟩) ?_ ?_
            rotate_left
            · intro w'
              go_simp
              with_reducible rfl
            rotate_left
            · simp only [Act.put, List.setIfInBounds_toArray, List.set_cons_zero, List.set_cons_succ, i64_w, i32_w]
              rfl
            refine done_ (done_of HT_.out (by kernel_rfl)) ?_
            try go_wp2
            go_meet
            case rel => exact ⟨_, (false), (by first | rfl | (simp; done) | (simp [*]; done)), H', ⟨by have := HJ2.out; first | omega | exact Nat.le_refl _⟩, ⟨by first | exact Kd.R_nil _ _ _ _ _ | exact Kd.N_nil _ _ _ _ _ | exact Kd.V_nil _ _ _ _ _ | exact Kd.Q_nil _ _ _ _ _ | exact Kd.S_nil _ _ _ _ _⟩, ⟨by (with_reducible repeat (first | apply Kd.Q_alloc | apply Kd.Q_drewN | apply Kd.Q_drew)); exact HO_163005.out⟩, ⟨by (with_reducible repeat (first | refine blk_drewN ?_ _ | refine blk_drew ?_ | refine blk_alloc ?_ _)); exact BK162.out⟩, ⟨by (with_reducible repeat (first | refine blk_drewN ?_ _ | refine blk_drew ?_ | refine blk_alloc ?_ _)); exact BK163.out⟩, ⟨by repeat (first | (with_reducible first | exact HB.out | apply below_alloc | apply pw_below_drewN | apply below_drew1 | refine below_set ?_ GE162.out | refine below_set ?_ GE163.out) | exact HB.out)⟩⟩
        case rest =>
          clear HC29
          try clear c1
          try clear p1
          try clear q1
          try clear hx1
          try clear qi1
          try clear c2
          try clear p2
          try clear c3
          try clear c5
          try clear c6
          try clear c12
          try clear c13
          try clear c13b0
          try clear c13b1
          try clear c14
          try clear p17
          try clear q17
          try clear hx17
          try clear qi17
          try clear c18
          try clear c20
          try clear c22
          try clear c25
          try clear c26
          try clear c30
          try clear c30b0
          try clear c30b1
          try clear c31
          try clear c31b0
          try clear c31b1
          try clear hcz15_0
          try clear hcz15_1
          try clear hcz15_2
          try clear hcz15_3
          try clear hcz15_4
          try clear hcz15_5
          try clear hcz17_0
          try clear hcz17_1
          try clear hcz17_2
          try clear hcz17_3
          try clear hcz17_4
          try clear hcz17_5
          try clear hcz19_0
          try clear hcz19_1
          try clear hcz19_2
          try clear hcz19_3
          try clear hcz19_4
          try clear hcz19_5
          try clear hcz21_0
          try clear hcz21_1
          try clear hcz21_2
          try clear hcz21_3
          try clear hcz21_4
          try clear hcz21_5
          try clear hcz23_0
          try clear hcz23_1
          try clear hcz23_2
          try clear hcz23_3
          try clear hcz23_4
          try clear hcz23_5
          try clear hcz27_0
          try clear hcz27_1
          try clear hcz27_2
          try clear hcz27_3
          try clear hcz27_4
          try clear hcz27_5
          try clear hcz28_0
          try clear hcz28_1
          try clear hcz28_2
          try clear hcz28_3
          try clear hcz28_4
          try clear hcz28_5
          try clear hcz7_0
          try clear hcz7_1
          try clear hcz7_2
          try clear hcz7_3
          try clear hcz7_4
          try clear hcz7_5
          try clear hcz9_0
          try clear hcz9_1
          try clear hcz9_2
          try clear hcz9_3
          try clear hcz9_4
          try clear hcz9_5
          try clear hfz15_0
          try clear hfz15_1
          try clear hfz15_2
          try clear hfz15_3
          try clear hfz15_4
          try clear hfz15_5
          try clear hfz17_0
          try clear hfz17_1
          try clear hfz17_2
          try clear hfz17_3
          try clear hfz17_4
          try clear hfz17_5
          try clear hfz19_0
          try clear hfz19_1
          try clear hfz19_2
          try clear hfz19_3
          try clear hfz19_4
          try clear hfz19_5
          try clear hfz21_0
          try clear hfz21_1
          try clear hfz21_2
          try clear hfz21_3
          try clear hfz21_4
          try clear hfz21_5
          try clear hfz23_0
          try clear hfz23_1
          try clear hfz23_2
          try clear hfz23_3
          try clear hfz23_4
          try clear hfz23_5
          try clear hfz27_0
          try clear hfz27_1
          try clear hfz27_2
          try clear hfz27_3
          try clear hfz27_4
          try clear hfz27_5
          try clear hfz28_0
          try clear hfz28_1
          try clear hfz28_2
          try clear hfz28_3
          try clear hfz28_4
          try clear hfz28_5
          try clear hfz7_0
          try clear hfz7_1
          try clear hfz7_2
          try clear hfz7_3
          try clear hfz7_4
          try clear hfz7_5
          try clear hfz9_0
          try clear hfz9_1
          try clear hfz9_2
          try clear hfz9_3
          try clear hfz9_4
          try clear hfz9_5
          try clear hx173_0
          try clear hx173_1
          try clear hx173_10
          try clear hx173_11
          try clear hx173_12
          try clear hx173_13
          try clear hx173_14
          try clear hx173_15
          try clear hx173_16
          try clear hx173_17
          try clear hx173_2
          try clear hx173_3
          try clear hx173_4
          try clear hx173_5
          try clear hx173_6
          try clear hx173_7
          try clear hx173_8
          try clear hx173_9
          try clear p173
          try clear p2
          try clear q173
          obtain ⟨kq, x37_28, rfl, HA, HJ28, HO_5, HO_163005, BK162, BK163, HB⟩ := hcut
          cases kq with
          | zero => exact absurd HA.out (by simp [impl_Play.j1])
          | succ kj28 =>
            have H := HA.out
            clear HA
            simp only [impl_Play.j1] at H
            have HC34 := Aside0.mk H
            clear H
            go_upto_if 37 with (fail)
            go_cut [5, 6] (fun v5 v6 wc => ∃ (kq : Nat) (x5_33 : List Int) (x6_33 : Bool) (x163005_33 : List (S44)) (u163005 : Value), v6 = .bool x6_33 ∧ Aside0 (impl_Play.j2 kq x5_33 x6_33 t164 t165 t166 t167 t168 x163005_33 = some (r1, r2, r3, r4, r5, r6, r7, r8)) ∧ Aside0 (kq ≤ kj28) ∧ Aside0 (Kd.R (Kd.int .i64) 3 wc w.heap.size (fun _ => True) v5 x5_33) ∧ Aside0 (Kd.Q k44 44 wc w.heap.size (fun _ => True) u163005 x163005_33) ∧ Aside0 (wc.heap[gb162]? = some (.cells #[.int .i64 t164, .int .i64 t165, .int .i64 t166, .int .i64 t167, .int .i64 t168, u163005] 35 (0, 0))) ∧ Aside0 (wc.heap[gb163]? = some (.cells #[.int .i64 0, .int .i64 0, .int .i64 0, .int .i64 0, .int .i64 0, (.slice none 0 0)] 35 (0, 0))) ∧ Aside0 (Below w.heap.size w wc))
            case first =>
              have H := HC34.out
              clear HC34
              by_cases c35 : x37_28 = true
              · subst c35
                have H1 : (if 0 < (t169.length : Int) then ((impl_OfFrame.f kj28 t168 ((rd_T44 t169 0).f2.f0) ((rd_T44 t169 0).f2.f1) ((rd_T44 t169 0).f2.f2) ((rd_T44 t169 0).f2.f3) ((rd_T44 t169 0).f2.f4) ((rd_T44 t169 0).f2.f5) ((rd_T44 t169 0).f2.f6) ((rd_T44 t169 0).f2.f7) ((rd_T44 t169 0).f2.f8) ((rd_T44 t169 0).f2.f9) ((rd_T44 t169 0).f2.f10) ((rd_T44 t169 0).f2.f11) ((rd_T44 t169 0).f2.f12) ((rd_T44 t169 0).f2.f13) ((rd_T44 t169 0).f2.f14) ((rd_T44 t169 0).f2.f15)).bind fun bt175 => (if 1 ≤ (t169.length : Int) then (impl_Play.j2 kj28 bt175.1 bt175.2.2.2 t164 t165 t166 t167 t168 (t169.drop (1 : Int).toNat)) else (none))) else (none)) = some (r1, r2, r3, r4, r5, r6, r7, r8) := by rw [if_pos rfl] at H; exact H
                clear H
                have H := H1
                clear H1
                by_cases c36 : 0 < (t169.length : Int)
                · rw [if_pos c36] at H
                  have c36b0 : decide (0 < (t169.length : Int)) = true := decide_eq_true c36
                  have c36b1 : decide (0 < t169.length) = true := decide_eq_true (by omega)
                  clear c36
                  (first | rw [c36b0] | (simp only [i64_w, i32_w]; rw [c36b0]) | (rw [c36b2]; try simp only [Bool.not_false, Bool.not_true]) | skip)
                  replace H := Option.bind_eq_some_iff.mp H
                  obtain ⟨⟨t175, t178, t179, t180⟩, A370, H⟩ := H
                  replace H : (if 1 ≤ (t169.length : Int) then (impl_Play.j2 kj28 t175 t180 t164 t165 t166 t167 t168 (t169.drop (1 : Int).toNat)) else (none)) = some (r1, r2, r3, r4, r5, r6, r7, r8) := H
                  have A37 := Aside0.mk A370
                  clear A370
                  by_cases c38 : 1 ≤ (t169.length : Int)
                  · rw [if_pos c38] at H
                    have c38b0 := eq_true c38
                    have c38b1 : decide (1 ≤ (t169.length : Int)) = true := decide_eq_true c38
                    clear c38
                    obtain ⟨y181, hy181⟩ : ∃ y_ : List (S44), y_ = (t169.drop (1 : Int).toNat) := ⟨_, rfl⟩
                    replace H : (impl_Play.j2 kj28 t175 t180 t164 t165 t166 t167 t168 y181) = some (r1, r2, r3, r4, r5, r6, r7, r8) := by first | (rw [hy181]; with_reducible exact H) | (have H2_ := (Option.bind_some _ _).symm.trans H; rw [hy181]; with_reducible exact H2_) | (have H2_ := (Option.bind_some _ _).symm.trans H; with_reducible exact H2_) | with_reducible exact H | (rw [hy181]; exact H) | exact H
                    have Ny181 := Aside0.mk hy181
                    clear hy181
                    have H' := Aside0.mk H
                    clear H
                    try go_wp2
                    have n0_ := Aside0.mk (Kd.R_drew HO_5.out)
                    have n1_ := Aside0.mk (Kd.Q_drew HO_163005.out)
                    have n2_ := Aside0.mk (blk_drew BK162.out)
                    have n3_ := Aside0.mk (blk_drew BK163.out)
                    have n4_ := Aside0.mk (below_drew1 HB.out)
                    clear HO_5
                    clear HO_163005
                    clear BK162
                    clear BK163
                    clear HB
                    have HO_5 := n0_
                    have HO_163005 := n1_
                    have BK162 := n2_
                    have BK163 := n3_
                    have HB := n4_
                    clear n0_ n1_ n2_ n3_ n4_
                    have p174 : 0 ≤ (0 : Int) := (by omega)
                    have q174 : 0 < (t169.length : Int) := of_decide_eq_true (by first | (with_reducible assumption) | assumption)
                    obtain ⟨ad174, e174, hx174_0, hx174_1, hx174_2, hx174_3, hx174_4, hx174_5, hx174_6, hx174_7, hx174_8, hx174_9, hx174_10, hx174_11, hx174_12, hx174_13, hx174_14, hx174_15, hx174_16, hx174_17⟩ := at_T44 (Kd.Q_reads' HO_163005.out).2.2 0 p174 q174
                    cases e174
                    have qi174 : (0 < t169.length) = True := eq_true (by omega)
                    (try rw [show ((0 : Int)).toNat = 0 from rfl] at hx174_0)
                    (try rw [show 0 * 18 = 0 from rfl] at hx174_0)
                    (try rw [Addr.add_zero'] at hx174_0)
                    (try rw [show ((0 : Int)).toNat = 0 from rfl] at hx174_1)
                    (try rw [show 0 * 18 = 0 from rfl] at hx174_1)
                    (try rw [Addr.add_zero'] at hx174_1)
                    (try rw [show ((0 : Int)).toNat = 0 from rfl] at hx174_2)
                    (try rw [show 0 * 18 = 0 from rfl] at hx174_2)
                    (try rw [Addr.add_zero'] at hx174_2)
                    (try rw [show ((0 : Int)).toNat = 0 from rfl] at hx174_3)
                    (try rw [show 0 * 18 = 0 from rfl] at hx174_3)
                    (try rw [Addr.add_zero'] at hx174_3)
                    (try rw [show ((0 : Int)).toNat = 0 from rfl] at hx174_4)
                    (try rw [show 0 * 18 = 0 from rfl] at hx174_4)
                    (try rw [Addr.add_zero'] at hx174_4)
                    (try rw [show ((0 : Int)).toNat = 0 from rfl] at hx174_5)
                    (try rw [show 0 * 18 = 0 from rfl] at hx174_5)
                    (try rw [Addr.add_zero'] at hx174_5)
                    (try rw [show ((0 : Int)).toNat = 0 from rfl] at hx174_6)
                    (try rw [show 0 * 18 = 0 from rfl] at hx174_6)
                    (try rw [Addr.add_zero'] at hx174_6)
                    (try rw [show ((0 : Int)).toNat = 0 from rfl] at hx174_7)
                    (try rw [show 0 * 18 = 0 from rfl] at hx174_7)
                    (try rw [Addr.add_zero'] at hx174_7)
                    (try rw [show ((0 : Int)).toNat = 0 from rfl] at hx174_8)
                    (try rw [show 0 * 18 = 0 from rfl] at hx174_8)
                    (try rw [Addr.add_zero'] at hx174_8)
                    (try rw [show ((0 : Int)).toNat = 0 from rfl] at hx174_9)
                    (try rw [show 0 * 18 = 0 from rfl] at hx174_9)
                    (try rw [Addr.add_zero'] at hx174_9)
                    (try rw [show ((0 : Int)).toNat = 0 from rfl] at hx174_10)
                    (try rw [show 0 * 18 = 0 from rfl] at hx174_10)
                    (try rw [Addr.add_zero'] at hx174_10)
                    (try rw [show ((0 : Int)).toNat = 0 from rfl] at hx174_11)
                    (try rw [show 0 * 18 = 0 from rfl] at hx174_11)
                    (try rw [Addr.add_zero'] at hx174_11)
                    (try rw [show ((0 : Int)).toNat = 0 from rfl] at hx174_12)
                    (try rw [show 0 * 18 = 0 from rfl] at hx174_12)
                    (try rw [Addr.add_zero'] at hx174_12)
                    (try rw [show ((0 : Int)).toNat = 0 from rfl] at hx174_13)
                    (try rw [show 0 * 18 = 0 from rfl] at hx174_13)
                    (try rw [Addr.add_zero'] at hx174_13)
                    (try rw [show ((0 : Int)).toNat = 0 from rfl] at hx174_14)
                    (try rw [show 0 * 18 = 0 from rfl] at hx174_14)
                    (try rw [Addr.add_zero'] at hx174_14)
                    (try rw [show ((0 : Int)).toNat = 0 from rfl] at hx174_15)
                    (try rw [show 0 * 18 = 0 from rfl] at hx174_15)
                    (try rw [Addr.add_zero'] at hx174_15)
                    (try rw [show ((0 : Int)).toNat = 0 from rfl] at hx174_16)
                    (try rw [show 0 * 18 = 0 from rfl] at hx174_16)
                    (try rw [Addr.add_zero'] at hx174_16)
                    (try rw [show ((0 : Int)).toNat = 0 from rfl] at hx174_17)
                    (try rw [show 0 * 18 = 0 from rfl] at hx174_17)
                    (try rw [Addr.add_zero'] at hx174_17)
                    replace p174 := eq_true p174
                    replace q174 := eq_true q174
                    refine start_ (n := 14) (S := fun w' => w'.cell? ⟨gb162, 0, none⟩ = some (.int .i64 t164) ∧ w'.cell? ⟨gb162, 1, none⟩ = some (.int .i64 t165) ∧ w'.cell? ⟨gb162, 2, none⟩ = some (.int .i64 t166) ∧ w'.cell? ⟨gb162, 3, none⟩ = some (.int .i64 t167) ∧ w'.cell? ⟨gb162, 4, none⟩ = some (.int .i64 t168) ∧ w'.cell? ⟨gb162, 5, none⟩ = some (.slice (some ad174) t169.length co10) ∧ w'.cell? ad174 = some (.int .i64 ((rd_T44 t169 0).f0)) ∧ w'.cell? ⟨ad174.block, ad174.off + 1, none⟩ = some (.int .i64 ((rd_T44 t169 0).f1)) ∧ w'.cell? ⟨ad174.block, ad174.off + 2, none⟩ = some (.int .u8 ((rd_T44 t169 0).f2.f0)) ∧ w'.cell? ⟨ad174.block, ad174.off + 3, none⟩ = some (.int .u8 ((rd_T44 t169 0).f2.f1)) ∧ w'.cell? ⟨ad174.block, ad174.off + 4, none⟩ = some (.int .u8 ((rd_T44 t169 0).f2.f2)) ∧ w'.cell? ⟨ad174.block, ad174.off + 5, none⟩ = some (.int .u8 ((rd_T44 t169 0).f2.f3)) ∧ w'.cell? ⟨ad174.block, ad174.off + 6, none⟩ = some (.int .u8 ((rd_T44 t169 0).f2.f4)) ∧ w'.cell? ⟨ad174.block, ad174.off + 7, none⟩ = some (.int .u8 ((rd_T44 t169 0).f2.f5)) ∧ w'.cell? ⟨ad174.block, ad174.off + 8, none⟩ = some (.int .u8 ((rd_T44 t169 0).f2.f6)) ∧ w'.cell? ⟨ad174.block, ad174.off + 9, none⟩ = some (.int .u8 ((rd_T44 t169 0).f2.f7)) ∧ w'.cell? ⟨ad174.block, ad174.off + 10, none⟩ = some (.int .u8 ((rd_T44 t169 0).f2.f8)) ∧ w'.cell? ⟨ad174.block, ad174.off + 11, none⟩ = some (.int .u8 ((rd_T44 t169 0).f2.f9)) ∧ w'.cell? ⟨ad174.block, ad174.off + 12, none⟩ = some (.int .u8 ((rd_T44 t169 0).f2.f10)) ∧ w'.cell? ⟨ad174.block, ad174.off + 13, none⟩ = some (.int .u8 ((rd_T44 t169 0).f2.f11)) ∧ w'.cell? ⟨ad174.block, ad174.off + 14, none⟩ = some (.int .u8 ((rd_T44 t169 0).f2.f12)) ∧ w'.cell? ⟨ad174.block, ad174.off + 15, none⟩ = some (.int .u8 ((rd_T44 t169 0).f2.f13)) ∧ w'.cell? ⟨ad174.block, ad174.off + 16, none⟩ = some (.int .u8 ((rd_T44 t169 0).f2.f14)) ∧ w'.cell? ⟨ad174.block, ad174.off + 17, none⟩ = some (.int .u8 ((rd_T44 t169 0).f2.f15))) (ds := []) #[false, false, false, false, false, false, false, false, false, false, false, false, false, false] (by kernel_rfl) rfl rfl ⟨(blk_cell BK162.out 0).trans rfl, (blk_cell BK162.out 1).trans rfl, (blk_cell BK162.out 2).trans rfl, (blk_cell BK162.out 3).trans rfl, (blk_cell BK162.out 4).trans rfl, (blk_cell BK162.out 5).trans rfl, hx174_0, hx174_1, hx174_2, hx174_3, hx174_4, hx174_5, hx174_6, hx174_7, hx174_8, hx174_9, hx174_10, hx174_11, hx174_12, hx174_13, hx174_14, hx174_15, hx174_16, hx174_17⟩ (fun hHeld => ?_); refine with_tabW impl_Play.tab7 impl_Play.bits7 (fun HT_ HW_ => ?_)
                    generalize wc.drew = w39 at HO_5 HO_163005 BK162 BK163 HB hx174_0 hx174_1 hx174_10 hx174_11 hx174_12 hx174_13 hx174_14 hx174_15 hx174_16 hx174_17 hx174_2 hx174_3 hx174_4 hx174_5 hx174_6 hx174_7 hx174_8 hx174_9 hHeld ⊢
                    refine pure_ (i := 0) (N := some 39) (v := ?_) (a' := ?_) #[true, false, false, false, false, false, false, false, false, false, false, false, false, false] rfl rfl (any_of HT_.out (by kernel_rfl)) (fun _ _ _ h => h) (Or.inl ⟨by rfl, ?_⟩) ?_ ?_
                    rotate_left
                    · intro w'
                      go_simp
                      with_reducible rfl
                    rotate_left
                    · simp only [Act.put, List.setIfInBounds_toArray, List.set_cons_zero, List.set_cons_succ, i64_w, i32_w]
                      rfl
                    refine pure_ (i := 2) (N := some 41) (v := ?_) (a' := ?_) #[true, false, true, false, false, false, false, false, false, false, false, false, false, false] rfl rfl (any_of HT_.out (by kernel_rfl)) (fun _ _ _ h => h) (Or.inl ⟨by rfl, ?_⟩) ?_ ?_
                    rotate_left
                    · intro w'
                      go_simp
                      with_reducible rfl
                    rotate_left
                    · simp only [Act.put, List.setIfInBounds_toArray, List.set_cons_zero, List.set_cons_succ, i64_w, i32_w]
                      rfl
                    refine take_ (i := 1) (N := some 40) (v := ?_) (a' := ?_) #[true, true, true, false, false, false, false, false, false, false, false, false, false, false] rfl rfl (take_ofW HT_.out HW_.out (by kernel_rfl)) (fun _ _ _ h => h) (Or.inl ⟨by rfl, ?_⟩) hHeld ?_ ?_
                    rotate_left
                    · rintro w' ⟨s0, s1, s2, s3, s4, s5, s6, s7, s8, s9, s10, s11, s12, s13, s14, s15, s16, s17, s18, s19, s20, s21, s22, s23⟩
                      go_simp
                      with_reducible rfl
                    rotate_left
                    · simp only [Act.put, List.setIfInBounds_toArray, List.set_cons_zero, List.set_cons_succ, i64_w, i32_w]
                      rfl
                    refine take_ (i := 3) (N := some 42) (v := ?_) (a' := ?_) #[true, true, true, true, false, false, false, false, false, false, false, false, false, false] rfl rfl (take_ofW HT_.out HW_.out (by kernel_rfl)) (fun _ _ _ h => h) (Or.inl ⟨by rfl, ?_⟩) hHeld ?_ ?_
                    rotate_left
                    · rintro w' ⟨s0, s1, s2, s3, s4, s5, s6, s7, s8, s9, s10, s11, s12, s13, s14, s15, s16, s17, s18, s19, s20, s21, s22, s23⟩
                      go_simp
                      with_reducible rfl
                    rotate_left
                    · simp only [Act.put, List.setIfInBounds_toArray, List.set_cons_zero, List.set_cons_succ, i64_w, i32_w]
                      rfl
                    refine pure_ (i := 4) (N := some 43) (v := ?_) (a' := ?_) #[true, true, true, true, true, false, false, false, false, false, false, false, false, false] rfl rfl (any_of HT_.out (by kernel_rfl)) (fun _ _ _ h => h) (Or.inl ⟨by rfl, ?_⟩) ?_ ?_
                    rotate_left
                    · intro w'
                      go_simp
                      with_reducible rfl
                    rotate_left
                    · simp only [Act.put, List.setIfInBounds_toArray, List.set_cons_zero, List.set_cons_succ, i64_w, i32_w]
                      rfl
                    refine pure_ (i := 5) (N := some 44) (v := ?_) (a' := ?_) #[true, true, true, true, true, true, false, false, false, false, false, false, false, false] rfl rfl (any_of HT_.out (by kernel_rfl)) (fun _ _ _ h => h) (Or.inl ⟨by rfl, ?_⟩) ?_ ?_
                    rotate_left
                    · intro w'
                      go_simp
                      with_reducible rfl
                    rotate_left
                    · simp only [Act.put, List.setIfInBounds_toArray, List.set_cons_zero, List.set_cons_succ, i64_w, i32_w]
                      rfl
                    refine take_ (i := 6) (N := some 45) (v := ?_) (a' := ?_) #[true, true, true, true, true, true, true, false, false, false, false, false, false, false] rfl rfl (take_ofW HT_.out HW_.out (by kernel_rfl)) (fun _ _ _ h => h) (Or.inl ⟨by rfl, ?_⟩) hHeld ?_ ?_
                    rotate_left
                    · rintro w' ⟨s0, s1, s2, s3, s4, s5, s6, s7, s8, s9, s10, s11, s12, s13, s14, s15, s16, s17, s18, s19, s20, s21, s22, s23⟩
                      go_simp
                      with_reducible rfl
                    rotate_left
                    · simp only [Act.put, List.setIfInBounds_toArray, List.set_cons_zero, List.set_cons_succ, i64_w, i32_w]
                      rfl
                    refine one_ (i := 7) (N := some 46) #[true, true, true, true, true, true, true, true, false, false, false, false, false, false] rfl rfl (one_of HT_.out (by kernel_rfl)) (by decide) (fun K hK => ?_)
                    refine goes_ Try.func60 (by kernel_rfl) rfl #[.int .i64 t168, .agg #[.int .u8 ((rd_T44 t169 0).f2.f0), .int .u8 ((rd_T44 t169 0).f2.f1), .int .u8 ((rd_T44 t169 0).f2.f2), .int .u8 ((rd_T44 t169 0).f2.f3), .int .u8 ((rd_T44 t169 0).f2.f4), .int .u8 ((rd_T44 t169 0).f2.f5), .int .u8 ((rd_T44 t169 0).f2.f6), .int .u8 ((rd_T44 t169 0).f2.f7), .int .u8 ((rd_T44 t169 0).f2.f8), .int .u8 ((rd_T44 t169 0).f2.f9), .int .u8 ((rd_T44 t169 0).f2.f10), .int .u8 ((rd_T44 t169 0).f2.f11), .int .u8 ((rd_T44 t169 0).f2.f12), .int .u8 ((rd_T44 t169 0).f2.f13), .int .u8 ((rd_T44 t169 0).f2.f14), .int .u8 ((rd_T44 t169 0).f2.f15)]] (by rfl) rfl rfl (by (try simp only [List.map_toArray, List.map_cons, List.map_nil]); first | done | rfl | (simp only [List.length_drop, List.length_take]; rfl)) ?_
                    with_reducible refine (impl_OfFrame.calls kj28 t168 ((rd_T44 t169 0).f2.f0) ((rd_T44 t169 0).f2.f1) ((rd_T44 t169 0).f2.f2) ((rd_T44 t169 0).f2.f3) ((rd_T44 t169 0).f2.f4) ((rd_T44 t169 0).f2.f5) ((rd_T44 t169 0).f2.f6) ((rd_T44 t169 0).f2.f7) ((rd_T44 t169 0).f2.f8) ((rd_T44 t169 0).f2.f9) ((rd_T44 t169 0).f2.f10) ((rd_T44 t169 0).f2.f11) ((rd_T44 t169 0).f2.f12) ((rd_T44 t169 0).f2.f13) ((rd_T44 t169 0).f2.f14) ((rd_T44 t169 0).f2.f15) t175 t178 t179 t180 _ A37.out).mono ?_
                    rintro e w40 ⟨v176, rfl, ho0, hb⟩
                    have HS6_ := Far.cb_ hb (hHeld.2.2.2.2.2.2.1)
                    have HS7_ := Far.cb_ hb (hHeld.2.2.2.2.2.2.2.1)
                    have HS8_ := Far.cb_ hb (hHeld.2.2.2.2.2.2.2.2.1)
                    have HS9_ := Far.cb_ hb (hHeld.2.2.2.2.2.2.2.2.2.1)
                    have HS10_ := Far.cb_ hb (hHeld.2.2.2.2.2.2.2.2.2.2.1)
                    have HS11_ := Far.cb_ hb (hHeld.2.2.2.2.2.2.2.2.2.2.2.1)
                    have HS12_ := Far.cb_ hb (hHeld.2.2.2.2.2.2.2.2.2.2.2.2.1)
                    have HS13_ := Far.cb_ hb (hHeld.2.2.2.2.2.2.2.2.2.2.2.2.2.1)
                    have HS14_ := Far.cb_ hb (hHeld.2.2.2.2.2.2.2.2.2.2.2.2.2.2.1)
                    have HS15_ := Far.cb_ hb (hHeld.2.2.2.2.2.2.2.2.2.2.2.2.2.2.2.1)
                    have HS16_ := Far.cb_ hb (hHeld.2.2.2.2.2.2.2.2.2.2.2.2.2.2.2.2.1)
                    have HS17_ := Far.cb_ hb (hHeld.2.2.2.2.2.2.2.2.2.2.2.2.2.2.2.2.2.1)
                    have HS18_ := Far.cb_ hb (hHeld.2.2.2.2.2.2.2.2.2.2.2.2.2.2.2.2.2.2.1)
                    have HS19_ := Far.cb_ hb (hHeld.2.2.2.2.2.2.2.2.2.2.2.2.2.2.2.2.2.2.2.1)
                    have HS20_ := Far.cb_ hb (hHeld.2.2.2.2.2.2.2.2.2.2.2.2.2.2.2.2.2.2.2.2.1)
                    have HS21_ := Far.cb_ hb (hHeld.2.2.2.2.2.2.2.2.2.2.2.2.2.2.2.2.2.2.2.2.2.1)
                    have HS22_ := Far.cb_ hb (hHeld.2.2.2.2.2.2.2.2.2.2.2.2.2.2.2.2.2.2.2.2.2.2.1)
                    have HS23_ := Far.cb_ hb (hHeld.2.2.2.2.2.2.2.2.2.2.2.2.2.2.2.2.2.2.2.2.2.2.2)
                    refine ⟨_, rfl, ?_⟩
                    have n0_ := Aside0.mk (Kd.R_elder' (by (with_reducible repeat (first | apply Kd.R_alloc | apply Kd.R_drewN | apply Kd.R_drew)); exact HO_5.out) (Kd.R_base ho0) hb)
                    have n1_ := Aside0.mk (Kd.Q_below (by (with_reducible repeat (first | apply Kd.Q_alloc | apply Kd.Q_drewN | apply Kd.Q_drew)); exact HO_163005.out) hb)
                    have n2_ := Aside0.mk (Kd.R_lower (Kd.R_new' ho0 (Kd.R_lt (by (with_reducible repeat (first | apply Kd.R_alloc | apply Kd.R_drewN | apply Kd.R_drew)); exact HO_5.out))) (below_size (by repeat (first | (with_reducible first | exact HB.out | apply below_alloc | apply pw_below_drewN | apply below_drew1 | refine below_set ?_ GE162.out | refine below_set ?_ GE163.out) | exact HB.out))))
                    have n3_ := Aside0.mk (blk_below (g := gb162) (o := .cells #[.int .i64 t164, .int .i64 t165, .int .i64 t166, .int .i64 t167, .int .i64 t168, .slice (some ad174) t169.length co10] 35 (0, 0)) (by (with_reducible repeat (first | refine blk_drewN ?_ _ | refine blk_drew ?_ | refine blk_alloc ?_ _)); exact BK162.out) hb)
                    have n4_ := Aside0.mk (blk_below (g := gb163) (o := .cells #[.int .i64 0, .int .i64 0, .int .i64 0, .int .i64 0, .int .i64 0, .slice none 0 0] 35 (0, 0)) (by (with_reducible repeat (first | refine blk_drewN ?_ _ | refine blk_drew ?_ | refine blk_alloc ?_ _)); exact BK163.out) hb)
                    have n5_ := Aside0.mk (below_step (by repeat (first | (with_reducible first | exact HB.out | apply below_alloc | apply pw_below_drewN | apply below_drew1 | refine below_set ?_ GE162.out | refine below_set ?_ GE163.out) | exact HB.out)) hb)
                    clear HO_5
                    clear HO_163005
                    clear BK162
                    clear BK163
                    clear HB
                    have HO_5 := n0_
                    have HO_163005 := n1_
                    have HO177 := n2_
                    have BK162 := n3_
                    have BK163 := n4_
                    have HB := n5_
                    clear n0_ n1_ n2_ n3_ n4_ n5_
                    (try clear hb)
                    (try clear hb2)
                    (try clear hk)
                    (try clear hi)
                    (try clear ho0)
                    refine hK.out _ _ ⟨(blk_cell BK162.out 0).trans rfl, (blk_cell BK162.out 1).trans rfl, (blk_cell BK162.out 2).trans rfl, (blk_cell BK162.out 3).trans rfl, (blk_cell BK162.out 4).trans rfl, (blk_cell BK162.out 5).trans rfl, HS6_, HS7_, HS8_, HS9_, HS10_, HS11_, HS12_, HS13_, HS14_, HS15_, HS16_, HS17_, HS18_, HS19_, HS20_, HS21_, HS22_, HS23_⟩ (fun hHeld => ?_)
                    clear hK K
                    refine norm_ (a' := ?_) ?_ ?_
                    rotate_left
                    · show Act.put _ (some 46) _ = _
                      simp only [Act.put, List.setIfInBounds_toArray, List.set_cons_zero, List.set_cons_succ, i64_w, i32_w]
                      rfl
                    refine pure_ (i := 8) (N := some 38) (v := ?_) (a' := ?_) #[true, true, true, true, true, true, true, true, true, false, false, false, false, false] rfl rfl (any_of HT_.out (by kernel_rfl)) (fun _ _ _ h => h) (Or.inl ⟨by rfl, ?_⟩) ?_ ?_
                    rotate_left
                    · intro w'
                      go_simp
                      with_reducible rfl
                    rotate_left
                    · simp only [Act.put, List.setIfInBounds_toArray, List.set_cons_zero, List.set_cons_succ, i64_w, i32_w]
                      rfl
                    refine pure_ (i := 9) (N := some 47) (v := ?_) (a' := ?_) #[true, true, true, true, true, true, true, true, true, true, false, false, false, false] rfl rfl (any_of HT_.out (by kernel_rfl)) (fun _ _ _ h => h) (Or.inl ⟨by rfl, ?_⟩) ?_ ?_
                    rotate_left
                    · intro w'
                      go_simp
                      with_reducible rfl
                    rotate_left
                    · simp only [Act.put, List.setIfInBounds_toArray, List.set_cons_zero, List.set_cons_succ, i64_w, i32_w]
                      rfl
                    refine pure_ (i := 10) (N := some 48) (v := ?_) (a' := ?_) #[true, true, true, true, true, true, true, true, true, true, true, false, false, false] rfl rfl (any_of HT_.out (by kernel_rfl)) (fun _ _ _ h => h) (Or.inl ⟨by rfl, ?_⟩) ?_ ?_
                    rotate_left
                    · intro w'
                      go_simp
                      with_reducible rfl
                    rotate_left
                    · simp only [Act.put, List.setIfInBounds_toArray, List.set_cons_zero, List.set_cons_succ, i64_w, i32_w]
                      rfl
                    refine pure_ (i := 11) (N := some 49) (v := ?_) (a' := ?_) #[true, true, true, true, true, true, true, true, true, true, true, true, false, false] rfl rfl (any_of HT_.out (by kernel_rfl)) (fun _ _ _ h => h) (Or.inl ⟨by rfl, ?_⟩) ?_ ?_
                    rotate_left
                    · intro w'
                      go_simp
                      with_reducible rfl
                    rotate_left
                    · simp only [Act.put, List.setIfInBounds_toArray, List.set_cons_zero, List.set_cons_succ, i64_w, i32_w]
                      rfl
                    refine pure_ (i := 12) (N := some 5) (v := ?_) (a' := ?_) #[true, true, true, true, true, true, true, true, true, true, true, true, true, false] rfl rfl (any_of HT_.out (by kernel_rfl)) (fun _ _ _ h => h) (Or.inl ⟨by rfl, ?_⟩) ?_ ?_
                    rotate_left
                    · intro w'
                      go_simp
                      with_reducible rfl
                    rotate_left
                    · simp only [Act.put, List.setIfInBounds_toArray, List.set_cons_zero, List.set_cons_succ, i64_w, i32_w]
                      rfl
                    refine pure_ (i := 13) (N := some 6) (v := ?_) (a' := ?_) #[true, true, true, true, true, true, true, true, true, true, true, true, true, true] rfl rfl (any_of HT_.out (by kernel_rfl)) (fun _ _ _ h => h) (Or.inl ⟨by rfl, ?_⟩) ?_ ?_
                    rotate_left
                    · intro w'
                      go_simp
                      with_reducible rfl
                    rotate_left
                    · simp only [Act.put, List.setIfInBounds_toArray, List.set_cons_zero, List.set_cons_succ, i64_w, i32_w]
                      rfl
                    refine done_ (done_of HT_.out (by kernel_rfl)) ?_
                    have hnb41 := NB162_163.out
                    have hnc41 := NB163_162.out
                    have hcz42_0 : w40.cell? ⟨gb162, 0, none⟩ = some (.int .i64 t164) := (blk_cell BK162.out 0).trans rfl
                    have hcz42_1 : w40.cell? ⟨gb162, 1, none⟩ = some (.int .i64 t165) := (blk_cell BK162.out 1).trans rfl
                    have hcz42_2 : w40.cell? ⟨gb162, 2, none⟩ = some (.int .i64 t166) := (blk_cell BK162.out 2).trans rfl
                    have hcz42_3 : w40.cell? ⟨gb162, 3, none⟩ = some (.int .i64 t167) := (blk_cell BK162.out 3).trans rfl
                    have hcz42_4 : w40.cell? ⟨gb162, 4, none⟩ = some (.int .i64 t168) := (blk_cell BK162.out 4).trans rfl
                    have hcz42_5 : w40.cell? ⟨gb162, 5, none⟩ = some (.slice (some ad174) t169.length co10) := (blk_cell BK162.out 5).trans rfl
                    have hfz42_0 := blk_frozen BK162.out 0
                    have hfz42_1 := blk_frozen BK162.out 1
                    have hfz42_2 := blk_frozen BK162.out 2
                    have hfz42_3 := blk_frozen BK162.out 3
                    have hfz42_4 := blk_frozen BK162.out 4
                    have hfz42_5 := blk_frozen BK162.out 5
                    have q43 : (1 : Int) ≤ ((t169.length : Int) : Int) := of_decide_eq_true (by first | (with_reducible assumption) | assumption)
                    obtain ⟨i043, hi043, _, hsz43, _⟩ := info_parts info44
                    have hcut43 := cut_from (P := Try.prog) 26 44 .i64 Try.underlying26 hi043 18 hsz43 (some ad174) t169.length co10 1 (by omega) q43
                    have hr43 := Kd.Q_drop (k := (1 : Int).toNat) HO_163005.out (by omega)
                    obtain ⟨A43, hA43⟩ : ∃ A1, A1 = (if co10 = (1 : Int).toNat then (some ad174) else ((some ad174) : Option Addr).map (·.add ((1 : Int).toNat * 18))) := ⟨_, rfl⟩
                    obtain ⟨c43, hc43⟩ : ∃ c1, c1 = co10 - (1 : Int).toNat := ⟨_, rfl⟩
                    have hy43 : y181.length = t169.length - (1 : Int).toNat := (by rw [Ny181.out, List.length_drop])
                    rw [← Ny181.out] at hr43
                    rw [← hy43, ← hA43, ← hc43] at hcut43
                    replace hr43 : Kd.Q k44 44 w40 w.heap.size (fun _ => True) (.slice A43 y181.length c43) y181 := (by rw [hA43, hc43, hy43]; exact hr43)
                    have HE43 : Aside0 ((Value.slice A43 y181.length c43).ownBlock = (.slice (some ad174) t169.length co10 : Value).ownBlock) := ⟨by rw [hA43]; split <;> (cases ((some ad174) : Option Addr) <;> rfl)⟩
                    clear hy43 hi043 hsz43 HO_163005 hA43 hc43
                    have HO183 := Aside0.mk hr43
                    clear hr43
                    replace q43 := eq_true q43
                    try go_wp2
                    go_meet
                    case rel => exact ⟨_, (t175), (t180), (y181), (.slice A43 y181.length c43), (by first | rfl | (simp; done) | (simp [*]; done)), H', ⟨by have := HJ2.out; have := HJ28.out; first | omega | exact Nat.le_refl _⟩, ⟨by (with_reducible repeat (first | apply Kd.R_alloc | apply Kd.R_drewN | apply Kd.R_drew)); exact Kd.R_mono (Kd.R_far (p := ⟨gb162, 5, none⟩) (Kd.R_types HO177.out BK162.out (by decide)) (fun _ hk => hk.2) (.slice A43 y181.length c43)) (fun _ hk => trivial)⟩, ⟨by (with_reducible repeat (first | apply Kd.Q_alloc | apply Kd.Q_drewN | apply Kd.Q_drew)); exact Kd.Q_mono (Kd.Q_far (p := ⟨gb162, 5, none⟩) (Kd.Q_types HO183.out BK162.out (by decide)) (fun _ hk => hk.2) (.slice A43 y181.length c43)) (fun _ hk => trivial)⟩, ⟨by (with_reducible repeat (first | refine blk_drewN ?_ _ | refine blk_drew ?_ | refine blk_alloc ?_ _)); refine blk_put (cs := #[.int .i64 t164, .int .i64 t165, .int .i64 t166, .int .i64 t167, .int .i64 t168, .slice (some ad174) t169.length co10]) ?_ 5 _ rfl; (with_reducible repeat (first | refine blk_drewN ?_ _ | refine blk_drew ?_ | refine blk_alloc ?_ _)); exact BK162.out⟩, ⟨by (with_reducible repeat (first | refine blk_drewN ?_ _ | refine blk_drew ?_ | refine blk_alloc ?_ _)); refine blk_far ?_ NB163_162.out _; (with_reducible repeat (first | refine blk_drewN ?_ _ | refine blk_drew ?_ | refine blk_alloc ?_ _)); exact BK163.out⟩, ⟨by repeat (first | (with_reducible first | exact HB.out | apply below_alloc | apply pw_below_drewN | apply below_drew1 | refine below_set ?_ GE162.out | refine below_set ?_ GE163.out) | exact HB.out)⟩⟩
                  · rw [if_neg c38] at H
                    exact absurd H (by simp)
                · rw [if_neg c36] at H
                  exact absurd H (by simp)
              · replace c35 := Bool.eq_false_iff.mpr c35
                subst c35
                have H1 : (impl_Play.j2 kj28 ([] : List Int) false t164 t165 t166 t167 t168 t169) = some (r1, r2, r3, r4, r5, r6, r7, r8) := by rw [if_neg (show ¬ (false = true) by decide)] at H; exact H
                clear H
                have H := H1
                clear H1
                have H' := Aside0.mk H
                clear H
                go_wp2
                go_meet
                case rel => exact ⟨_, (([] : List Int)), (false), (t169), (.slice Ao10 t169.length co10), (by first | rfl | (simp; done) | (simp [*]; done)), H', ⟨by have := HJ2.out; have := HJ28.out; first | omega | exact Nat.le_refl _⟩, ⟨by (with_reducible repeat (first | apply Kd.R_alloc | apply Kd.R_drewN | apply Kd.R_drew)); exact HO_5.out⟩, ⟨by (with_reducible repeat (first | apply Kd.Q_alloc | apply Kd.Q_drewN | apply Kd.Q_drew)); exact HO_163005.out⟩, ⟨by (with_reducible repeat (first | refine blk_drewN ?_ _ | refine blk_drew ?_ | refine blk_alloc ?_ _)); exact BK162.out⟩, ⟨by (with_reducible repeat (first | refine blk_drewN ?_ _ | refine blk_drew ?_ | refine blk_alloc ?_ _)); exact BK163.out⟩, ⟨by repeat (first | (with_reducible first | exact HB.out | apply below_alloc | apply pw_below_drewN | apply below_drew1 | refine below_set ?_ GE162.out | refine below_set ?_ GE163.out) | exact HB.out)⟩⟩
            case rest =>
              clear HC34
              try clear c1
              try clear p1
              try clear q1
              try clear hx1
              try clear qi1
              try clear c2
              try clear p2
              try clear c3
              try clear c4
              try clear q4
              try clear c5
              try clear c6
              try clear c12
              try clear c13
              try clear c13b0
              try clear c13b1
              try clear c14
              try clear p17
              try clear q17
              try clear hx17
              try clear qi17
              try clear c18
              try clear c20
              try clear c22
              try clear c25
              try clear c26
              try clear c30
              try clear c30b0
              try clear c30b1
              try clear c31
              try clear c31b0
              try clear c31b1
              try clear c35
              try clear c36
              try clear c36b0
              try clear c36b1
              try clear c38
              try clear c38b0
              try clear c38b1
              try clear c41
              try clear c43
              try clear q43
              try clear hcz15_0
              try clear hcz15_1
              try clear hcz15_2
              try clear hcz15_3
              try clear hcz15_4
              try clear hcz15_5
              try clear hcz17_0
              try clear hcz17_1
              try clear hcz17_2
              try clear hcz17_3
              try clear hcz17_4
              try clear hcz17_5
              try clear hcz19_0
              try clear hcz19_1
              try clear hcz19_2
              try clear hcz19_3
              try clear hcz19_4
              try clear hcz19_5
              try clear hcz21_0
              try clear hcz21_1
              try clear hcz21_2
              try clear hcz21_3
              try clear hcz21_4
              try clear hcz21_5
              try clear hcz23_0
              try clear hcz23_1
              try clear hcz23_2
              try clear hcz23_3
              try clear hcz23_4
              try clear hcz23_5
              try clear hcz27_0
              try clear hcz27_1
              try clear hcz27_2
              try clear hcz27_3
              try clear hcz27_4
              try clear hcz27_5
              try clear hcz28_0
              try clear hcz28_1
              try clear hcz28_2
              try clear hcz28_3
              try clear hcz28_4
              try clear hcz28_5
              try clear hcz42_0
              try clear hcz42_1
              try clear hcz42_2
              try clear hcz42_3
              try clear hcz42_4
              try clear hcz42_5
              try clear hcz7_0
              try clear hcz7_1
              try clear hcz7_2
              try clear hcz7_3
              try clear hcz7_4
              try clear hcz7_5
              try clear hcz9_0
              try clear hcz9_1
              try clear hcz9_2
              try clear hcz9_3
              try clear hcz9_4
              try clear hcz9_5
              try clear hfz15_0
              try clear hfz15_1
              try clear hfz15_2
              try clear hfz15_3
              try clear hfz15_4
              try clear hfz15_5
              try clear hfz17_0
              try clear hfz17_1
              try clear hfz17_2
              try clear hfz17_3
              try clear hfz17_4
              try clear hfz17_5
              try clear hfz19_0
              try clear hfz19_1
              try clear hfz19_2
              try clear hfz19_3
              try clear hfz19_4
              try clear hfz19_5
              try clear hfz21_0
              try clear hfz21_1
              try clear hfz21_2
              try clear hfz21_3
              try clear hfz21_4
              try clear hfz21_5
              try clear hfz23_0
              try clear hfz23_1
              try clear hfz23_2
              try clear hfz23_3
              try clear hfz23_4
              try clear hfz23_5
              try clear hfz27_0
              try clear hfz27_1
              try clear hfz27_2
              try clear hfz27_3
              try clear hfz27_4
              try clear hfz27_5
              try clear hfz28_0
              try clear hfz28_1
              try clear hfz28_2
              try clear hfz28_3
              try clear hfz28_4
              try clear hfz28_5
              try clear hfz42_0
              try clear hfz42_1
              try clear hfz42_2
              try clear hfz42_3
              try clear hfz42_4
              try clear hfz42_5
              try clear hfz7_0
              try clear hfz7_1
              try clear hfz7_2
              try clear hfz7_3
              try clear hfz7_4
              try clear hfz7_5
              try clear hfz9_0
              try clear hfz9_1
              try clear hfz9_2
              try clear hfz9_3
              try clear hfz9_4
              try clear hfz9_5
              try clear hx173_0
              try clear hx173_1
              try clear hx173_10
              try clear hx173_11
              try clear hx173_12
              try clear hx173_13
              try clear hx173_14
              try clear hx173_15
              try clear hx173_16
              try clear hx173_17
              try clear hx173_2
              try clear hx173_3
              try clear hx173_4
              try clear hx173_5
              try clear hx173_6
              try clear hx173_7
              try clear hx173_8
              try clear hx173_9
              try clear hx174_0
              try clear hx174_1
              try clear hx174_10
              try clear hx174_11
              try clear hx174_12
              try clear hx174_13
              try clear hx174_14
              try clear hx174_15
              try clear hx174_16
              try clear hx174_17
              try clear hx174_2
              try clear hx174_3
              try clear hx174_4
              try clear hx174_5
              try clear hx174_6
              try clear hx174_7
              try clear hx174_8
              try clear hx174_9
              try clear p1
              try clear p17
              try clear p173
              try clear p174
              try clear p2
              try clear q1
              try clear q17
              try clear q173
              try clear q174
              try clear q43
              obtain ⟨kq, x5_33, x6_33, x163005_33, u163005, rfl, HA, HJ33, HO_5, HO_163005, BK162, BK163, HB⟩ := hcut
              cases kq with
              | zero => exact absurd HA.out (by simp [impl_Play.j2])
              | succ kj33 =>
                have H := HA.out
                clear HA
                simp only [impl_Play.j2] at H
                by_cases c44 : x6_33 = true
                · subst c44
                  have H1 : (if 29 < (x5_33.length : Int) then (some (wrap64 (t164 + 1), t165, t166, t167, rd x5_33 29, x163005_33, x5_33, true)) else (none)) = some (r1, r2, r3, r4, r5, r6, r7, r8) := by rw [if_pos rfl] at H; exact H
                  clear H
                  have H := H1
                  clear H1
                  by_cases c45 : 29 < (x5_33.length : Int)
                  · rw [if_pos c45] at H
                    have c45b0 : decide (29 < (x5_33.length : Int)) = true := decide_eq_true c45
                    have c45b1 : decide (29 < x5_33.length) = true := decide_eq_true (by omega)
                    clear c45
                    simp only [Option.some.injEq, Prod.mk.injEq] at H
                    obtain ⟨rfl, rfl, rfl, rfl, rfl, rfl, rfl, rfl⟩ := H
                    have hnb46 := NB162_163.out
                    have hnc46 := NB163_162.out
                    have hcz47_0 : wc.cell? ⟨gb162, 0, none⟩ = some (.int .i64 t164) := (blk_cell BK162.out 0).trans rfl
                    have hcz47_1 : wc.cell? ⟨gb162, 1, none⟩ = some (.int .i64 t165) := (blk_cell BK162.out 1).trans rfl
                    have hcz47_2 : wc.cell? ⟨gb162, 2, none⟩ = some (.int .i64 t166) := (blk_cell BK162.out 2).trans rfl
                    have hcz47_3 : wc.cell? ⟨gb162, 3, none⟩ = some (.int .i64 t167) := (blk_cell BK162.out 3).trans rfl
                    have hcz47_4 : wc.cell? ⟨gb162, 4, none⟩ = some (.int .i64 t168) := (blk_cell BK162.out 4).trans rfl
                    have hcz47_5 : wc.cell? ⟨gb162, 5, none⟩ = some (u163005) := (blk_cell BK162.out 5).trans rfl
                    have hfz47_0 := blk_frozen BK162.out 0
                    have hfz47_1 := blk_frozen BK162.out 1
                    have hfz47_2 := blk_frozen BK162.out 2
                    have hfz47_3 := blk_frozen BK162.out 3
                    have hfz47_4 := blk_frozen BK162.out 4
                    have hfz47_5 := blk_frozen BK162.out 5
                    obtain ⟨Ao48, co48, eo48⟩ := Kd.R_slice HO_5.out
                    subst eo48
                    have p184 : 0 ≤ (29 : Int) := (by omega)
                    have q184 : 29 < (x5_33.length : Int) := of_decide_eq_true (by first | (with_reducible assumption) | assumption)
                    obtain ⟨ad184, e184, hx184_0⟩ := Kd.at_int (Kd.R_reads' HO_5.out).2.2 29 p184 q184
                    cases e184
                    (try simp only [show (29 : Int).toNat = 29 from rfl, Nat.reduceMul, Nat.reduceEqDiff, Go.Addr.add, ↓reduceIte] at hx184_0)
                    have qi184 : (29 < x5_33.length) = True := eq_true (by omega)
                    (try rw [show ((29 : Int)).toNat = 29 from rfl] at hx184_0)
                    have hn184_0 : ad184.block ≠ gb162 := Kd.own_blk (Kd.R_ne HO_5.out BK162.out (by decide))
                    replace hx184_0 := (cell_far (p := ⟨gb162, 0, none⟩) (by first | (rw [add_block]; exact hn184_0) | (show (Addr.add _ _).block ≠ _; rw [add_block]; exact hn184_0) | exact hn184_0) (.int .i64 (wrap64 (t164 + 1)))).trans hx184_0
                    clear hn184_0
                    replace p184 := eq_true p184
                    replace q184 := eq_true q184
                    have hcz49_0 : wc.cell? ⟨gb163, 0, none⟩ = some (.int .i64 0) := (blk_cell BK163.out 0).trans rfl
                    have hcz49_1 : wc.cell? ⟨gb163, 1, none⟩ = some (.int .i64 0) := (blk_cell BK163.out 1).trans rfl
                    have hcz49_2 : wc.cell? ⟨gb163, 2, none⟩ = some (.int .i64 0) := (blk_cell BK163.out 2).trans rfl
                    have hcz49_3 : wc.cell? ⟨gb163, 3, none⟩ = some (.int .i64 0) := (blk_cell BK163.out 3).trans rfl
                    have hcz49_4 : wc.cell? ⟨gb163, 4, none⟩ = some (.int .i64 0) := (blk_cell BK163.out 4).trans rfl
                    have hcz49_5 : wc.cell? ⟨gb163, 5, none⟩ = some (.slice none 0 0) := (blk_cell BK163.out 5).trans rfl
                    have hfz49_0 := blk_frozen BK163.out 0
                    have hfz49_1 := blk_frozen BK163.out 1
                    have hfz49_2 := blk_frozen BK163.out 2
                    have hfz49_3 := blk_frozen BK163.out 3
                    have hfz49_4 := blk_frozen BK163.out 4
                    have hfz49_5 := blk_frozen BK163.out 5
                    obtain ⟨Ao50, co50, eo50, _⟩ := Kd.Q_slice HO_163005.out
                    subst eo50
                    go_wp2
                    refine bodyPost_ret (results_ctt rfl _ _ gb163 35 #[.int .i64 (wrap64 (t164 + 1)), .int .i64 t165, .int .i64 t166, .int .i64 t167, .int .i64 (rd x5_33 29), .slice Ao50 x163005_33.length co50] (0, 0) _ rfl (by (with_reducible repeat (first | refine blk_drewN ?_ _ | refine blk_drew ?_ | refine blk_alloc ?_ _)); refine Far.put6_ #[.int .i64 0, .int .i64 0, .int .i64 0, .int .i64 0, .int .i64 0, .slice none 0 0] rfl ?_; (with_reducible repeat (first | refine blk_drewN ?_ _ | refine blk_drew ?_ | refine blk_alloc ?_ _)); refine blk_far ?_ NB163_162.out _; (with_reducible repeat (first | refine blk_drewN ?_ _ | refine blk_drew ?_ | refine blk_alloc ?_ _)); refine blk_far ?_ NB163_162.out _; (with_reducible repeat (first | refine blk_drewN ?_ _ | refine blk_drew ?_ | refine blk_alloc ?_ _)); exact BK163.out) Try.underlying35 rfl (by kernel_rfl)) rfl ?_
                    exact ⟨_, _, by first | rfl | (simp [errW_none, errW_some] <;> rfl) | (simp [*, errW_none, errW_some] <;> rfl), by (with_reducible repeat (first | apply Kd.Q_alloc | apply Kd.Q_drewN | apply Kd.Q_drew)); exact Kd.Q_mono (Far.qfar6_ (fun _ hk => hk.2) (Far.qfar2_ (fun _ hk => hk.1.2) (Kd.Q_types (Kd.Q_types HO_163005.out BK162.out (by decide)) BK163.out (by decide)))) (fun _ hk => trivial), by (with_reducible repeat (first | apply Kd.R_alloc | apply Kd.R_drewN | apply Kd.R_drew)); exact Kd.R_mono (Far.rfar6_ (fun _ hk => hk.2) (Far.rfar2_ (fun _ hk => hk.1.2) (Kd.R_types (Kd.R_types HO_5.out BK162.out (by decide)) BK163.out (by decide)))) (fun _ hk => trivial), by repeat (first | (with_reducible first | exact HB.out | apply below_alloc | apply pw_below_drewN | apply below_drew1 | refine below_set ?_ GE162.out | refine below_set ?_ GE163.out) | exact HB.out)⟩
                  · rw [if_neg c45] at H
                    exact absurd H (by simp)
                · replace c44 := Bool.eq_false_iff.mpr c44
                  subst c44
                  have H1 : (impl_Play.l0 kj33 ([] : List Int) 1 t164 t165 t166 t167 t168 x163005_33) = some (r1, r2, r3, r4, r5, r6, r7, r8) := by rw [if_neg (show ¬ (false = true) by decide)] at H; exact H
                  clear H
                  have H := H1
                  clear H1
                  have H' := Aside0.mk H
                  clear H
                  go_wp2
                  go_loopg [5, 7] kj33 (fun kq v5 v7 w' => ∃ (x5_4 : List Int) (x7_4 : Int), v7 = .int .i64 x7_4 ∧ Aside0 (impl_Play.l0 kq x5_4 x7_4 t164 t165 t166 t167 t168 x163005_33 = some (r1, r2, r3, r4, r5, r6, r7, r8)) ∧ Aside0 (kq ≤ kj33) ∧ Aside0 (Kd.R (Kd.int .i64) 3 w' w.heap.size (fun _ => True) v5 x5_4) ∧ Aside0 (Kd.Q k44 44 w' w.heap.size (fun _ => True) u163005 x163005_33) ∧ Aside0 (w'.heap[gb162]? = some (.cells #[.int .i64 t164, .int .i64 t165, .int .i64 t166, .int .i64 t167, .int .i64 t168, u163005] 35 (0, 0))) ∧ Aside0 (w'.heap[gb163]? = some (.cells #[.int .i64 0, .int .i64 0, .int .i64 0, .int .i64 0, .int .i64 0, (.slice none 0 0)] 35 (0, 0))) ∧ Aside0 (Below w.heap.size w w'))
                  case atStart => exact ⟨(([] : List Int)), (1), (by first | rfl | (simp; done) | (simp [*]; done)), H', ⟨Nat.le_refl _⟩, ⟨by first | exact Kd.R_nil _ _ _ _ _ | exact Kd.N_nil _ _ _ _ _ | exact Kd.V_nil _ _ _ _ _ | exact Kd.Q_nil _ _ _ _ _ | exact Kd.S_nil _ _ _ _ _⟩, ⟨by (with_reducible repeat (first | apply Kd.Q_alloc | apply Kd.Q_drewN | apply Kd.Q_drew)); exact HO_163005.out⟩, ⟨by (with_reducible repeat (first | refine blk_drewN ?_ _ | refine blk_drew ?_ | refine blk_alloc ?_ _)); exact BK162.out⟩, ⟨by (with_reducible repeat (first | refine blk_drewN ?_ _ | refine blk_drew ?_ | refine blk_alloc ?_ _)); exact BK163.out⟩, ⟨by repeat (first | (with_reducible first | exact HB.out | apply below_alloc | apply pw_below_drewN | apply below_drew1 | refine below_set ?_ GE162.out | refine below_set ?_ GE163.out) | exact HB.out)⟩⟩
                  case round =>
                    clear H'
                    try clear c1
                    try clear p1
                    try clear q1
                    try clear hx1
                    try clear qi1
                    try clear c2
                    try clear p2
                    try clear c3
                    try clear c4
                    try clear q4
                    try clear c5
                    try clear c6
                    try clear p6
                    try clear c12
                    try clear c13
                    try clear c13b0
                    try clear c13b1
                    try clear c14
                    try clear p17
                    try clear q17
                    try clear hx17
                    try clear qi17
                    try clear c18
                    try clear p18
                    try clear q18
                    try clear hx18
                    try clear qi18
                    try clear c20
                    try clear c22
                    try clear c25
                    try clear c26
                    try clear c30
                    try clear c30b0
                    try clear c30b1
                    try clear c31
                    try clear c31b0
                    try clear c31b1
                    try clear c35
                    try clear c36
                    try clear c36b0
                    try clear c36b1
                    try clear c38
                    try clear c38b0
                    try clear c38b1
                    try clear c41
                    try clear c43
                    try clear q43
                    try clear c44
                    try clear c45
                    try clear c45b0
                    try clear c45b1
                    try clear c46
                    try clear hcz15_0
                    try clear hcz15_1
                    try clear hcz15_2
                    try clear hcz15_3
                    try clear hcz15_4
                    try clear hcz15_5
                    try clear hcz17_0
                    try clear hcz17_1
                    try clear hcz17_2
                    try clear hcz17_3
                    try clear hcz17_4
                    try clear hcz17_5
                    try clear hcz19_0
                    try clear hcz19_1
                    try clear hcz19_2
                    try clear hcz19_3
                    try clear hcz19_4
                    try clear hcz19_5
                    try clear hcz21_0
                    try clear hcz21_1
                    try clear hcz21_2
                    try clear hcz21_3
                    try clear hcz21_4
                    try clear hcz21_5
                    try clear hcz23_0
                    try clear hcz23_1
                    try clear hcz23_2
                    try clear hcz23_3
                    try clear hcz23_4
                    try clear hcz23_5
                    try clear hcz27_0
                    try clear hcz27_1
                    try clear hcz27_2
                    try clear hcz27_3
                    try clear hcz27_4
                    try clear hcz27_5
                    try clear hcz28_0
                    try clear hcz28_1
                    try clear hcz28_2
                    try clear hcz28_3
                    try clear hcz28_4
                    try clear hcz28_5
                    try clear hcz42_0
                    try clear hcz42_1
                    try clear hcz42_2
                    try clear hcz42_3
                    try clear hcz42_4
                    try clear hcz42_5
                    try clear hcz47_0
                    try clear hcz47_1
                    try clear hcz47_2
                    try clear hcz47_3
                    try clear hcz47_4
                    try clear hcz47_5
                    try clear hcz49_0
                    try clear hcz49_1
                    try clear hcz49_2
                    try clear hcz49_3
                    try clear hcz49_4
                    try clear hcz49_5
                    try clear hcz7_0
                    try clear hcz7_1
                    try clear hcz7_2
                    try clear hcz7_3
                    try clear hcz7_4
                    try clear hcz7_5
                    try clear hcz9_0
                    try clear hcz9_1
                    try clear hcz9_2
                    try clear hcz9_3
                    try clear hcz9_4
                    try clear hcz9_5
                    try clear hfz15_0
                    try clear hfz15_1
                    try clear hfz15_2
                    try clear hfz15_3
                    try clear hfz15_4
                    try clear hfz15_5
                    try clear hfz17_0
                    try clear hfz17_1
                    try clear hfz17_2
                    try clear hfz17_3
                    try clear hfz17_4
                    try clear hfz17_5
                    try clear hfz19_0
                    try clear hfz19_1
                    try clear hfz19_2
                    try clear hfz19_3
                    try clear hfz19_4
                    try clear hfz19_5
                    try clear hfz21_0
                    try clear hfz21_1
                    try clear hfz21_2
                    try clear hfz21_3
                    try clear hfz21_4
                    try clear hfz21_5
                    try clear hfz23_0
                    try clear hfz23_1
                    try clear hfz23_2
                    try clear hfz23_3
                    try clear hfz23_4
                    try clear hfz23_5
                    try clear hfz27_0
                    try clear hfz27_1
                    try clear hfz27_2
                    try clear hfz27_3
                    try clear hfz27_4
                    try clear hfz27_5
                    try clear hfz28_0
                    try clear hfz28_1
                    try clear hfz28_2
                    try clear hfz28_3
                    try clear hfz28_4
                    try clear hfz28_5
                    try clear hfz42_0
                    try clear hfz42_1
                    try clear hfz42_2
                    try clear hfz42_3
                    try clear hfz42_4
                    try clear hfz42_5
                    try clear hfz47_0
                    try clear hfz47_1
                    try clear hfz47_2
                    try clear hfz47_3
                    try clear hfz47_4
                    try clear hfz47_5
                    try clear hfz49_0
                    try clear hfz49_1
                    try clear hfz49_2
                    try clear hfz49_3
                    try clear hfz49_4
                    try clear hfz49_5
                    try clear hfz7_0
                    try clear hfz7_1
                    try clear hfz7_2
                    try clear hfz7_3
                    try clear hfz7_4
                    try clear hfz7_5
                    try clear hfz9_0
                    try clear hfz9_1
                    try clear hfz9_2
                    try clear hfz9_3
                    try clear hfz9_4
                    try clear hfz9_5
                    try clear hx173_0
                    try clear hx173_1
                    try clear hx173_10
                    try clear hx173_11
                    try clear hx173_12
                    try clear hx173_13
                    try clear hx173_14
                    try clear hx173_15
                    try clear hx173_16
                    try clear hx173_17
                    try clear hx173_2
                    try clear hx173_3
                    try clear hx173_4
                    try clear hx173_5
                    try clear hx173_6
                    try clear hx173_7
                    try clear hx173_8
                    try clear hx173_9
                    try clear hx174_0
                    try clear hx174_1
                    try clear hx174_10
                    try clear hx174_11
                    try clear hx174_12
                    try clear hx174_13
                    try clear hx174_14
                    try clear hx174_15
                    try clear hx174_16
                    try clear hx174_17
                    try clear hx174_2
                    try clear hx174_3
                    try clear hx174_4
                    try clear hx174_5
                    try clear hx174_6
                    try clear hx174_7
                    try clear hx174_8
                    try clear hx174_9
                    try clear hx184_0
                    try clear p1
                    try clear p17
                    try clear p173
                    try clear p174
                    try clear p184
                    try clear p2
                    try clear q1
                    try clear q17
                    try clear q173
                    try clear q174
                    try clear q184
                    try clear q4
                    try clear q43
                    obtain ⟨x5_4, x7_4, rfl, HA, HK4, HO_5, HO_163005, BK162, BK163, HB⟩ := hrel
                    cases gk with
                    | zero => exact absurd HA.out (by simp [impl_Play.l0])
                    | succ k4 =>
                      have H := HA.out
                      clear HA
                      simp only [impl_Play.l0] at H
                      by_cases c51 : x7_4 ≤ 30
                      · rw [if_pos c51] at H
                        have c51b0 : decide (x7_4 ≤ 30) = true := decide_eq_true c51
                        clear c51
                        by_cases c52 : x5_4.length < 17592186044416
                        · rw [if_pos c52] at H
                          have LMc52 := Aside0.mk c52
                          clear c52
                          obtain ⟨y185, hy185⟩ : ∃ y_ : List Int, y_ = (x5_4 ++ [wrap64 (Int.tdiv (wrap64 (t168 * (wrap64 (30 - x7_4)))) 30)]) := ⟨_, rfl⟩
                          replace H : (impl_Play.l0 k4 y185 (wrap64 (x7_4 + 1)) t164 t165 t166 t167 t168 x163005_33) = some (r1, r2, r3, r4, r5, r6, r7, r8) := by first | (rw [hy185]; with_reducible exact H) | (have H2_ := (Option.bind_some _ _).symm.trans H; rw [hy185]; with_reducible exact H2_) | (have H2_ := (Option.bind_some _ _).symm.trans H; with_reducible exact H2_) | with_reducible exact H | (rw [hy185]; exact H) | exact H
                          have Ny185 := Aside0.mk hy185
                          clear hy185
                          have H' := Aside0.mk H
                          clear H
                          have hnb53 := NB162_163.out
                          have hnc53 := NB163_162.out
                          have hcz54_0 : wr.cell? ⟨gb162, 0, none⟩ = some (.int .i64 t164) := (blk_cell BK162.out 0).trans rfl
                          have hcz54_1 : wr.cell? ⟨gb162, 1, none⟩ = some (.int .i64 t165) := (blk_cell BK162.out 1).trans rfl
                          have hcz54_2 : wr.cell? ⟨gb162, 2, none⟩ = some (.int .i64 t166) := (blk_cell BK162.out 2).trans rfl
                          have hcz54_3 : wr.cell? ⟨gb162, 3, none⟩ = some (.int .i64 t167) := (blk_cell BK162.out 3).trans rfl
                          have hcz54_4 : wr.cell? ⟨gb162, 4, none⟩ = some (.int .i64 t168) := (blk_cell BK162.out 4).trans rfl
                          have hcz54_5 : wr.cell? ⟨gb162, 5, none⟩ = some (u163005) := (blk_cell BK162.out 5).trans rfl
                          have hfz54_0 := blk_frozen BK162.out 0
                          have hfz54_1 := blk_frozen BK162.out 1
                          have hfz54_2 := blk_frozen BK162.out 2
                          have hfz54_3 := blk_frozen BK162.out 3
                          have hfz54_4 := blk_frozen BK162.out 4
                          have hfz54_5 := blk_frozen BK162.out 5
                          go_wp2_with (first | ((with_reducible refine gate_builtin (b := .append) (xs := #[.tmp 60, .tmp 67]) rfl ?_); at_builtin; refine Kd.R_append (Kd.int .i64) (w0 := w) w.heap.size rfl (.tmp 60) (.tmp 67) 48 3 (.int .i64 0) 8 rfl Try.underlying48 info3 rfl (by decide) (by omega) u5 x5_4 (wrap64 (Int.tdiv (wrap64 (t168 * (wrap64 (30 - x7_4)))) 30)) [.int .i64 (wrap64 (Int.tdiv (wrap64 (t168 * (wrap64 (30 - x7_4)))) 30))] (fun _ => True) (fun _ => False) rfl rfl ?aP (fun _ hk => hk.elim) ?aF ?aO ?aB ?aS ?aL ?_; (case aP => exact rfl); (case aB => exact (by repeat (first | (with_reducible first | exact HB.out | apply below_alloc | apply pw_below_drewN | apply below_drew1 | refine below_set ?_ GE162.out | refine below_set ?_ GE163.out) | exact HB.out))); (case aF => exact (fun _ _ => trivial)); (case aO => exact (by (with_reducible repeat (first | apply Kd.R_alloc | apply Kd.R_drewN | apply Kd.R_drew)); exact HO_5.out)); (case aS => exact (below_size (by repeat (first | (with_reducible first | exact HB.out | apply below_alloc | apply pw_below_drewN | apply below_drew1 | refine below_set ?_ GE162.out | refine below_set ?_ GE163.out) | exact HB.out)))); (case aL => have := LMc52.out; omega); intro v186 w55 ho hb hg hat; rw [← Ny185.out] at ho; have n0_ := Aside0.mk (Kd.Q_over' (by (with_reducible repeat (first | apply Kd.Q_alloc | apply Kd.Q_drewN | apply Kd.Q_drew)); exact HO_163005.out) (Kd.R_typed (by (with_reducible repeat (first | apply Kd.R_alloc | apply Kd.R_drewN | apply Kd.R_drew)); exact HO_5.out)) (by decide) hg); have n1_ := Aside0.mk (blk_grown (g := gb162) (o := .cells #[.int .i64 t164, .int .i64 t165, .int .i64 t166, .int .i64 t167, .int .i64 t168, u163005] 35 (0, 0)) (by (with_reducible repeat (first | refine blk_drewN ?_ _ | refine blk_drew ?_ | refine blk_alloc ?_ _)); exact BK162.out) hg (Kd.R_ne HO_5.out BK162.out (by decide))); have n2_ := Aside0.mk (blk_grown (g := gb163) (o := .cells #[.int .i64 0, .int .i64 0, .int .i64 0, .int .i64 0, .int .i64 0, .slice none 0 0] 35 (0, 0)) (by (with_reducible repeat (first | refine blk_drewN ?_ _ | refine blk_drew ?_ | refine blk_alloc ?_ _)); exact BK163.out) hg (Kd.R_ne HO_5.out BK163.out (by decide))); have n3_ := Aside0.mk (hb); have n4_ := Aside0.mk (ho); clear HO_163005; clear BK162; clear BK163; clear HB; clear HO_5; have HO_163005 := n0_; have BK162 := n1_; have BK163 := n2_; have HB := n3_; have HO187 := n4_; clear n0_ n1_ n2_ n3_ n4_; clear ho hb hg hat))
                          go_roundg k4
                          case measure => have := HJ2.out; have := HJ28.out; have := HJ33.out; have := HK4.out; omega
                          case rel => exact ⟨(y185), (wrap64 (x7_4 + 1)), (by first | rfl | (simp; done) | (simp [*]; done)), H', ⟨by have := HJ2.out; have := HJ28.out; have := HJ33.out; have := HK4.out; omega⟩, ⟨by (with_reducible repeat (first | apply Kd.R_alloc | apply Kd.R_drewN | apply Kd.R_drew)); exact HO187.out⟩, ⟨by (with_reducible repeat (first | apply Kd.Q_alloc | apply Kd.Q_drewN | apply Kd.Q_drew)); exact HO_163005.out⟩, ⟨by (with_reducible repeat (first | refine blk_drewN ?_ _ | refine blk_drew ?_ | refine blk_alloc ?_ _)); exact BK162.out⟩, ⟨by (with_reducible repeat (first | refine blk_drewN ?_ _ | refine blk_drew ?_ | refine blk_alloc ?_ _)); exact BK163.out⟩, ⟨by repeat (first | (with_reducible first | exact HB.out | apply below_alloc | apply pw_below_drewN | apply below_drew1 | refine below_set ?_ GE162.out | refine below_set ?_ GE163.out) | exact HB.out)⟩⟩
                        · rw [if_neg c52] at H
                          exact absurd H (by simp)
                      · rw [if_neg c51] at H
                        have c51b0 : decide (x7_4 ≤ 30) = false := decide_eq_false c51
                        clear c51
                        by_cases c56 : 29 < (x5_4.length : Int)
                        · rw [if_pos c56] at H
                          have c56b0 : decide (29 < (x5_4.length : Int)) = true := decide_eq_true c56
                          have c56b1 : decide (29 < x5_4.length) = true := decide_eq_true (by omega)
                          clear c56
                          simp only [Option.some.injEq, Prod.mk.injEq] at H
                          obtain ⟨rfl, rfl, rfl, rfl, rfl, rfl, rfl, rfl⟩ := H
                          have hnb57 := NB162_163.out
                          have hnc57 := NB163_162.out
                          have hcz58_0 : wr.cell? ⟨gb162, 0, none⟩ = some (.int .i64 t164) := (blk_cell BK162.out 0).trans rfl
                          have hcz58_1 : wr.cell? ⟨gb162, 1, none⟩ = some (.int .i64 t165) := (blk_cell BK162.out 1).trans rfl
                          have hcz58_2 : wr.cell? ⟨gb162, 2, none⟩ = some (.int .i64 t166) := (blk_cell BK162.out 2).trans rfl
                          have hcz58_3 : wr.cell? ⟨gb162, 3, none⟩ = some (.int .i64 t167) := (blk_cell BK162.out 3).trans rfl
                          have hcz58_4 : wr.cell? ⟨gb162, 4, none⟩ = some (.int .i64 t168) := (blk_cell BK162.out 4).trans rfl
                          have hcz58_5 : wr.cell? ⟨gb162, 5, none⟩ = some (u163005) := (blk_cell BK162.out 5).trans rfl
                          have hfz58_0 := blk_frozen BK162.out 0
                          have hfz58_1 := blk_frozen BK162.out 1
                          have hfz58_2 := blk_frozen BK162.out 2
                          have hfz58_3 := blk_frozen BK162.out 3
                          have hfz58_4 := blk_frozen BK162.out 4
                          have hfz58_5 := blk_frozen BK162.out 5
                          obtain ⟨Ao59, co59, eo59⟩ := Kd.R_slice HO_5.out
                          subst eo59
                          have p188 : 0 ≤ (29 : Int) := (by omega)
                          have q188 : 29 < (x5_4.length : Int) := of_decide_eq_true (by first | (with_reducible assumption) | assumption)
                          obtain ⟨ad188, e188, hx188_0⟩ := Kd.at_int (Kd.R_reads' HO_5.out).2.2 29 p188 q188
                          cases e188
                          (try simp only [show (29 : Int).toNat = 29 from rfl, Nat.reduceMul, Nat.reduceEqDiff, Go.Addr.add, ↓reduceIte] at hx188_0)
                          have qi188 : (29 < x5_4.length) = True := eq_true (by omega)
                          (try rw [show ((29 : Int)).toNat = 29 from rfl] at hx188_0)
                          have hn188_0 : ad188.block ≠ gb162 := Kd.own_blk (Kd.R_ne HO_5.out BK162.out (by decide))
                          have hn188_1 : ad188.block ≠ gb162 := Kd.own_blk (Kd.R_ne HO_5.out BK162.out (by decide))
                          replace hx188_0 := (cell_far (p := ⟨gb162, 3, none⟩) (by first | (rw [add_block]; exact hn188_0) | (show (Addr.add _ _).block ≠ _; rw [add_block]; exact hn188_0) | exact hn188_0) (.int .i64 (wrap64 (t167 + 1)))).trans hx188_0
                          replace hx188_0 := (cell_far (p := ⟨gb162, 0, none⟩) (by first | (rw [add_block]; exact hn188_1) | (show (Addr.add _ _).block ≠ _; rw [add_block]; exact hn188_1) | exact hn188_1) (.int .i64 (wrap64 (t164 + 1)))).trans hx188_0
                          clear hn188_0
                          clear hn188_1
                          replace p188 := eq_true p188
                          replace q188 := eq_true q188
                          have hcz60_0 : wr.cell? ⟨gb163, 0, none⟩ = some (.int .i64 0) := (blk_cell BK163.out 0).trans rfl
                          have hcz60_1 : wr.cell? ⟨gb163, 1, none⟩ = some (.int .i64 0) := (blk_cell BK163.out 1).trans rfl
                          have hcz60_2 : wr.cell? ⟨gb163, 2, none⟩ = some (.int .i64 0) := (blk_cell BK163.out 2).trans rfl
                          have hcz60_3 : wr.cell? ⟨gb163, 3, none⟩ = some (.int .i64 0) := (blk_cell BK163.out 3).trans rfl
                          have hcz60_4 : wr.cell? ⟨gb163, 4, none⟩ = some (.int .i64 0) := (blk_cell BK163.out 4).trans rfl
                          have hcz60_5 : wr.cell? ⟨gb163, 5, none⟩ = some (.slice none 0 0) := (blk_cell BK163.out 5).trans rfl
                          have hfz60_0 := blk_frozen BK163.out 0
                          have hfz60_1 := blk_frozen BK163.out 1
                          have hfz60_2 := blk_frozen BK163.out 2
                          have hfz60_3 := blk_frozen BK163.out 3
                          have hfz60_4 := blk_frozen BK163.out 4
                          have hfz60_5 := blk_frozen BK163.out 5
                          obtain ⟨Ao61, co61, eo61, _⟩ := Kd.Q_slice HO_163005.out
                          subst eo61
                          go_wp2
                          refine bodyPost_ret (results_ctt rfl _ _ gb163 35 #[.int .i64 (wrap64 (t164 + 1)), .int .i64 t165, .int .i64 t166, .int .i64 (wrap64 (t167 + 1)), .int .i64 (rd x5_4 29), .slice Ao61 x163005_33.length co61] (0, 0) _ rfl (by (with_reducible repeat (first | refine blk_drewN ?_ _ | refine blk_drew ?_ | refine blk_alloc ?_ _)); refine Far.put6_ #[.int .i64 0, .int .i64 0, .int .i64 0, .int .i64 0, .int .i64 0, .slice none 0 0] rfl ?_; (with_reducible repeat (first | refine blk_drewN ?_ _ | refine blk_drew ?_ | refine blk_alloc ?_ _)); refine blk_far ?_ NB163_162.out _; (with_reducible repeat (first | refine blk_drewN ?_ _ | refine blk_drew ?_ | refine blk_alloc ?_ _)); refine blk_far ?_ NB163_162.out _; (with_reducible repeat (first | refine blk_drewN ?_ _ | refine blk_drew ?_ | refine blk_alloc ?_ _)); refine blk_far ?_ NB163_162.out _; (with_reducible repeat (first | refine blk_drewN ?_ _ | refine blk_drew ?_ | refine blk_alloc ?_ _)); exact BK163.out) Try.underlying35 rfl (by kernel_rfl)) rfl ?_
                          exact ⟨_, _, by first | rfl | (simp [errW_none, errW_some] <;> rfl) | (simp [*, errW_none, errW_some] <;> rfl), by (with_reducible repeat (first | apply Kd.Q_alloc | apply Kd.Q_drewN | apply Kd.Q_drew)); exact Kd.Q_mono (Far.qfar6_ (fun _ hk => hk.2) (Far.qfar3_ (fun _ hk => hk.1.2) (Kd.Q_types (Kd.Q_types HO_163005.out BK162.out (by decide)) BK163.out (by decide)))) (fun _ hk => trivial), by (with_reducible repeat (first | apply Kd.R_alloc | apply Kd.R_drewN | apply Kd.R_drew)); exact Kd.R_mono (Far.rfar6_ (fun _ hk => hk.2) (Far.rfar3_ (fun _ hk => hk.1.2) (Kd.R_types (Kd.R_types HO_5.out BK162.out (by decide)) BK163.out (by decide)))) (fun _ hk => trivial), by repeat (first | (with_reducible first | exact HB.out | apply below_alloc | apply pw_below_drewN | apply below_drew1 | refine below_set ?_ GE162.out | refine below_set ?_ GE163.out) | exact HB.out)⟩
                        · rw [if_neg c56] at H
                          exact absurd H (by simp)

end Go.Proofs.Ytbgdmbjipladoaa.PFnTwice
