-- laid by a program of this session (wip/lay/lay.py); Lean checks it
import Derived.Test.YtbgdmbjipladoaaVFnExactPlayShort
import Derived.Test.YtbgdmbjipladoaaPFnExactPlayx0
import Derived.Test.YtbgdmbjipladoaaPFnExactPlayx2
import Derived.Test.YtbgdmbjipladoaaPFnExactPlayx4
namespace Go.Proofs.Ytbgdmbjipladoaa.PFnExactPlay
-- squashed
open Go.RowKit Go.Proofs.YtbgdmbjipladoaaW.PrintWords Go.Proofs.YtbgdmbjipladoaaW.PrintLast Go.Proofs.YtbgdmbjipladoaaW.PrintMore Go.Proofs.Ytbgdmbjipladoaa.Short
attribute [local go_sem] max2_int min2_int max_two min_two max_three min_three max_four min_four   -- for this text's walks alone
set_option linter.unusedVariables false
set_option linter.unusedSimpArgs false

theorem cz5_ {w : World} {g : Nat} {t : TypeId} {cs : Array Value} {v : Value} (h : w.heap[g]? = some (.cells cs t (0, 0))) (i : Nat) (e : cs[i]? = some v) : w.cell? ⟨g, i, none⟩ = some v := (blk_cell h i).trans e
theorem nn5_ {a b : Nat} (h : a ≠ b) : a ≠ b ∧ b ≠ a := ⟨h, h.symm⟩
/-! ### spec_Expand: function 69 -/
mutual
def spec_Expand.j0 : Nat → List Int → List Int → Bool → Int → Int → Option (List Int × Int × Int × Bool)
 | 0, _, _, _, _, _ => none
 | k + 1, x1, x7, x17, x146000, x146001 => if x17 = true then (some (x7, 0, 0, false)) else (spec_Expand.l0 k x1 x7 0 x146000 x146001)
def spec_Expand.l0 : Nat → List Int → List Int → Int → Int → Int → Option (List Int × Int × Int × Bool)
 | 0, _, _, _, _, _ => none
 | k + 1, x1, x7, x8, x146000, x146001 => if x8 < (x1.length : Int) then (if 0 ≤ x8 then ((spec_l1In.f (rd x1 x8) 0 15).bind fun t152 => (if t152 = true then ((spec_l11Next.f k x146000 x146001 (rd x1 x8)).bind fun bt154 => (if x7.length < 17592186044416 then (spec_Expand.l0 k x1 (x7 ++ [bt154.1]) (wrap64 (x8 + 1)) bt154.1 bt154.2) else (none))) else (some ((([] : List Int)), 0, 0, false)))) else (none)) else (some (x7, x146000, x146001, true))
end
def spec_Expand.f (k : Nat) (a0_0 : Int) (a0_1 : Int) (l1 : List Int) : Option (List Int × Int × Int × Bool) := (some (([] : List Int) : List Int)).bind fun y147 => ((spec_l11Coder.f a0_0 a0_1).bind fun t150 => (if t150 = true then (spec_Expand.j0 k l1 y147 (decide ((l1.length : Int) > 300)) a0_0 a0_1) else (spec_Expand.j0 k l1 y147 true a0_0 a0_1)))
theorem spec_Expand.mono_l : ∀ k, (∀ y0 y1 y2 y3 y4, LeO (spec_Expand.j0 k y0 y1 y2 y3 y4) (spec_Expand.j0 (k + 1) y0 y1 y2 y3 y4)) ∧ (∀ y0 y1 y2 y3 y4, LeO (spec_Expand.l0 k y0 y1 y2 y3 y4) (spec_Expand.l0 (k + 1) y0 y1 y2 y3 y4))
 | 0 => ⟨fun _ _ _ _ _ r h => by simp [spec_Expand.j0] at h, fun _ _ _ _ _ r h => by simp [spec_Expand.l0] at h⟩
 | k + 1 => by
  obtain ⟨ih0, ih1⟩ := spec_Expand.mono_l k
  refine ⟨?_, ?_⟩
  ·intro y0 y1 y2 y3 y4
   unfold spec_Expand.j0
   repeat' first
   | (with_reducible exact ih0 _ _ _ _ _)
   | (with_reducible exact ih1 _ _ _ _ _)
   | (with_reducible exact spec_l11Next.mono _ _ _ _)
   | (with_reducible exact LeO.refl _)
   | (with_reducible exact LeO.none _)
   | (with_reducible refine LeO.ite ?_ ?_)
   | (with_reducible refine LeO.bind ?_ (fun _ => ?_))
   | exact ih0 _ _ _ _ _
   | exact ih1 _ _ _ _ _
   | exact spec_l11Next.mono _ _ _ _
   | exact LeO.none _
   | refine LeO.ite ?_ ?_
   | refine LeO.bind ?_ (fun _ => ?_)
  ·intro y0 y1 y2 y3 y4
   unfold spec_Expand.l0
   repeat' first
   | (with_reducible exact ih0 _ _ _ _ _)
   | (with_reducible exact ih1 _ _ _ _ _)
   | (with_reducible exact spec_l11Next.mono _ _ _ _)
   | (with_reducible exact LeO.refl _)
   | (with_reducible exact LeO.none _)
   | (with_reducible refine LeO.ite ?_ ?_)
   | (with_reducible refine LeO.bind ?_ (fun _ => ?_))
   | exact ih0 _ _ _ _ _
   | exact ih1 _ _ _ _ _
   | exact spec_l11Next.mono _ _ _ _
   | exact LeO.none _
   | refine LeO.ite ?_ ?_
   | refine LeO.bind ?_ (fun _ => ?_)
theorem spec_Expand.mono : ∀ a0 a1 a2 k, LeO (spec_Expand.f k a0 a1 a2) (spec_Expand.f (k + 1) a0 a1 a2) := by
 intro a0 a1 a2 k
 obtain ⟨ih0, ih1⟩ := spec_Expand.mono_l k
 unfold spec_Expand.f
 repeat' first
   | (with_reducible exact ih0 _ _ _ _ _)
   | (with_reducible exact ih1 _ _ _ _ _)
   | (with_reducible exact spec_l11Next.mono _ _ _ _)
   | (with_reducible exact LeO.refl _)
   | (with_reducible exact LeO.none _)
   | (with_reducible refine LeO.ite ?_ ?_)
   | (with_reducible refine LeO.bind ?_ (fun _ => ?_))
   | exact ih0 _ _ _ _ _
   | exact ih1 _ _ _ _ _
   | exact spec_l11Next.mono _ _ _ _
   | exact LeO.none _
   | refine LeO.ite ?_ ?_
   | refine LeO.bind ?_ (fun _ => ?_)
set_option maxHeartbeats 8000000 in
set_option maxRecDepth 100000 in
theorem spec_Expand.calls (k : Nat) (a0_0 : Int) (a0_1 : Int) (A1 : Option Addr) (c1 : Nat) (l1 : List Int) (r1 : List Int) (r2 : Int) (r3 : Int) (r4 : Bool) (w : World) (hr1 : Kd.C (Kd.int .i64) w A1 l1.length l1) (hc1 : l1.length ≤ c1) (h : spec_Expand.f k a0_0 a0_1 l1 = some (r1, r2, r3, r4)) :
  Calls Try.prog 69 #[.agg #[.int .i64 a0_0, .int .i64 a0_1], .slice A1 l1.length c1] w fun e w' => ∃ v0_ : Value, e = .returned (.tuple #[v0_, .agg #[.int .i64 r2, .int .i64 r3], .bool r4]) ∧ Kd.R (Kd.int .i64) 3 w' w.heap.size (fun _ => True) v0_ r1 ∧ Below w.heap.size w w' := by
 have hu76 := Try.underlying76; have HR1 := am_ hr1; have HC1 := am_ hc1; clear hr1 hc1; have HB := am_ (Below.refl w.heap.size w)
 have H : ((some (([] : List Int) : List Int)).bind fun y147 => ((spec_l11Coder.f a0_0 a0_1).bind fun t150 => (if t150 = true then (spec_Expand.j0 k l1 y147 (decide ((l1.length : Int) > 300)) a0_0 a0_1) else (spec_Expand.j0 k l1 y147 true a0_0 a0_1)))) = some (r1, r2, r3, r4) := h
 clear h; obtain ⟨y147, hy147⟩ : ∃ y_ : List Int, y_ = (([] : List Int)) := ⟨_, rfl⟩
 replace H : ((spec_l11Coder.f a0_0 a0_1).bind fun t150 => (if t150 = true then (spec_Expand.j0 k l1 y147 (decide ((l1.length : Int) > 300)) a0_0 a0_1) else (spec_Expand.j0 k l1 y147 true a0_0 a0_1))) = some (r1, r2, r3, r4) := by first | (rw [hy147]; with_reducible exact H) | (have H2_ := (Option.bind_some _ _).symm.trans H; rw [hy147]; with_reducible exact H2_) | (have H2_ := (Option.bind_some _ _).symm.trans H; with_reducible exact H2_) | with_reducible exact H | (rw [hy147]; exact H) | exact H
 have Ny147 := am_ hy147; clear hy147; have HC3 := am_ H; clear H
 go_enter Try.func69, Try.ntmps69
 go_upto_region 2 with (first | ((with_reducible refine gate_dst (N := 2) rfl ?_); (try (refine gate_guard (by rfl) ?_; dsimp only)); refine box_event ?hg (N := 2) ?hd (cs := #[.int .i64 a0_0, .int .i64 a0_1]) (t := 76) ?hr ?_; (case hd => rfl); (case hg => rfl); (case hr => first | (go_simp; done) | (go_simp; rfl)); intro gb145 hg w4 hbox hb; have n0_ := am_ (below_step belowNow hb); have n1_ := am_ (hbox); have n2_ := am_ ((by rw [hg]; exact (below_size belowNow) : w.heap.size ≤ gb145)); have n3_ := n2_; clear HB; have HB := n0_; have BK145 := n1_; have GW145 := n2_; have GE145 := n3_; clear n0_ n1_ n2_ n3_; clear hb hbox hg) | ((with_reducible refine gate_dst (N := 5) rfl ?_); (try (refine gate_guard (by rfl) ?_; dsimp only)); refine box_event ?hg (N := 5) ?hd (cs := #[.int .i64 0, .int .i64 0]) (t := 76) ?hr ?_; (case hd => rfl); (case hg => rfl); (case hr => first | (go_simp; done) | (go_simp; rfl)); intro gb146 hg w5 hbox hb; have n0_ := am_ (blkStep (g := gb145) hb); have n1_ := am_ (below_step belowNow hb); have n2_ := am_ (hbox); have n3_ := am_ ((by rw [hg]; exact (below_size belowNow) : w.heap.size ≤ gb146)); have n4_ := n3_; have n5_ := am_ ((by rw [hg]; exact Nat.ne_of_lt (blkLt (g := gb145)) : gb145 ≠ gb146)); have n6_ := am_ ((by rw [hg]; exact Nat.ne_of_gt (blkLt (g := gb145)) : gb146 ≠ gb145)); clear BK145; clear HB; have BK145 := n0_; have HB := n1_; have BK146 := n2_; have GW146 := n3_; have GE146 := n4_; have NB145_146 := n5_; have NB146_145 := n6_; clear n0_ n1_ n2_ n3_ n4_ n5_ n6_; clear hb hbox hg) | ((with_reducible refine gate_dst (N := 9) rfl ?_); (try (refine gate_guard (by rfl) ?_; dsimp only)); refine Kd.R_lit (Kd.int .i64) _ 3 ?hg (N := 9) ?hd (xs := ([] : List Int)) (inner := []) (ok := fun _ => True) (okp := fun _ => True) ?hr ?hp (fun _ hk => hk) trivial (Below.refl _ _) (Nat.le_refl _) (by simp) ?_; (case hd => rfl); (case hg => rfl); (case hr => first | (go_simp; done) | (go_simp; rfl)); (case hp => exact (Reps.none _ _)); intro v148 w6 ho7 hb hg_ hnew_; clear hg_ hnew_; (first | rw [← Ny147.out] at ho7 | (simp only [Int.reduceToNat] at ho7; rw [← Ny147.out] at ho7)); have HO149 := am_ (Kd.R_lower ho7 (below_size belowNow)); replace BK145 := am_ (blkStep (g := gb145) hb); replace BK146 := am_ (blkStep (g := gb146) hb); replace HB := am_ (below_step belowNow hb); clear hb ho7))
 (try simp only [Act.put, List.setIfInBounds_toArray, List.set_cons_zero, List.set_cons_succ])
 go_cut [17] (fun v17 wc => ∃ (kq : Nat) (x17_2 : Bool), v17 = .bool x17_2 ∧ Aside0 (spec_Expand.j0 kq l1 y147 x17_2 a0_0 a0_1 = some (r1, r2, r3, r4)) ∧ Aside0 (kq ≤ k) ∧ Aside0 (Kd.R (Kd.int .i64) 3 wc w.heap.size (fun _ => True) v148 y147) ∧ Aside0 (wc.heap[gb145]? = some (.cells #[.int .i64 a0_0, .int .i64 a0_1] 76 (0, 0))) ∧ Aside0 (wc.heap[gb146]? = some (.cells #[.int .i64 0, .int .i64 0] 76 (0, 0))) ∧ Aside0 (Below w.heap.size w wc))
 case first =>
  have H := HC3.out; clear HC3; replace H := Option.bind_eq_some_iff.mp H; obtain ⟨t150, A80, H⟩ := H
  replace H : (if t150 = true then (spec_Expand.j0 k l1 y147 (decide ((l1.length : Int) > 300)) a0_0 a0_1) else (spec_Expand.j0 k l1 y147 true a0_0 a0_1)) = some (r1, r2, r3, r4) := H
  have A8 := am_ A80; clear A80
  by_cases c9 : t150 = true
  case pos =>
   subst c9
   have H1 : (spec_Expand.j0 k l1 y147 (decide ((l1.length : Int) > 300)) a0_0 a0_1) = some (r1, r2, r3, r4) := by rw [if_pos rfl] at H; exact H
   clear H; have H := H1; clear H1
   have H' := am_ H
   clear H; have ⟨hnb10, hnc10⟩ := nn5_ NB145_146.out; have hcz11_0 := cz5_ BK145.out 0 rfl; have hcz11_1 := cz5_ BK145.out 1 rfl; have hfz11_0 := blk_frozen BK145.out 0; have hfz11_1 := blk_frozen BK145.out 1
   go_wp2_with (first | ((with_reducible refine gate_callee (f := 77) rfl ?_); refine goesL_ (some 11) rfl rfl Try.func77 (by kernel_rfl) rfl #[.agg #[.int .i64 a0_0, .int .i64 a0_1]] rfl (by (try simp only [List.map_toArray, List.map_cons, List.map_nil]); first | done | rfl | (simp only [List.length_drop, List.length_take]; rfl)) ?_; (with_reducible refine (spec_l11Coder.calls a0_0 a0_1 true _ A8.out).mono ?_); rintro e w12 ⟨rfl, hb⟩; refine ⟨_, rfl, ?_⟩; replace HO149 := am_ (Kd.R_below (pR_ HO149.out) hb); replace BK145 := am_ (blkStep (g := gb145) hb); replace BK146 := am_ (blkStep (g := gb146) hb); replace HB := am_ (below_step belowNow hb); (try clear hb); (try clear hb2); (try clear hk); (try clear hi)))
   go_meet
   case rel => exact ⟨_, (decide ((l1.length : Int) > 300)), (by first | rfl | (simp; done) | (simp [*]; done)), H', ⟨by first | omega | exact Nat.le_refl _⟩, ⟨pR_ HO149.out⟩, ⟨pB_ BK145.out⟩, ⟨pB_ BK146.out⟩, ⟨belowNow⟩⟩
  replace c9 := Bool.eq_false_iff.mpr c9; subst c9
  have H1 : (spec_Expand.j0 k l1 y147 true a0_0 a0_1) = some (r1, r2, r3, r4) := by rw [if_neg (show ¬ (false = true) by decide)] at H; exact H
  clear H; have H := H1; clear H1
  have H' := am_ H
  clear H; have ⟨hnb13, hnc13⟩ := nn5_ NB145_146.out; have hcz14_0 := cz5_ BK145.out 0 rfl; have hcz14_1 := cz5_ BK145.out 1 rfl; have hfz14_0 := blk_frozen BK145.out 0; have hfz14_1 := blk_frozen BK145.out 1
  go_wp2_with (first | ((with_reducible refine gate_callee (f := 77) rfl ?_); refine goesL_ (some 11) rfl rfl Try.func77 (by kernel_rfl) rfl #[.agg #[.int .i64 a0_0, .int .i64 a0_1]] rfl (by (try simp only [List.map_toArray, List.map_cons, List.map_nil]); first | done | rfl | (simp only [List.length_drop, List.length_take]; rfl)) ?_; (with_reducible refine (spec_l11Coder.calls a0_0 a0_1 false _ A8.out).mono ?_); rintro e w15 ⟨rfl, hb⟩; refine ⟨_, rfl, ?_⟩; replace HO149 := am_ (Kd.R_below (pR_ HO149.out) hb); replace BK145 := am_ (blkStep (g := gb145) hb); replace BK146 := am_ (blkStep (g := gb146) hb); replace HB := am_ (below_step belowNow hb); (try clear hb); (try clear hb2); (try clear hk); (try clear hi)))
  go_meet
  case rel => exact ⟨_, (true), (by first | rfl | (simp; done) | (simp [*]; done)), H', ⟨by first | omega | exact Nat.le_refl _⟩, ⟨pR_ HO149.out⟩, ⟨pB_ BK145.out⟩, ⟨pB_ BK146.out⟩, ⟨belowNow⟩⟩
 case rest =>
  clear HC3; (try clear c1); (try clear p2); (try clear c6); (try clear c7); (try clear c9); (try clear c10); (try clear c13); (try clear hcz11_0 hcz11_1); (try clear hcz14_0 hcz14_1); (try clear hfz11_0 hfz11_1); (try clear hfz14_0 hfz14_1); obtain ⟨kq, x17_2, rfl, HA, HJ2, HO_7, BK145, BK146, HB⟩ := hcut
  cases kq with
  | zero => exact absurd HA.out (by simp [spec_Expand.j0])
  | succ kj2 =>
   have H := HA.out; clear HA; simp only [spec_Expand.j0] at H
   by_cases c16 : x17_2 = true
   case pos =>
    subst c16
    have H1 : (some (y147, 0, 0, false)) = some (r1, r2, r3, r4) := by rw [if_pos rfl] at H; exact H
    clear H; have H := H1; clear H1; simp only [Option.some.injEq, Prod.mk.injEq] at H; obtain ⟨rfl, rfl, rfl, rfl⟩ := H; have ⟨hnb17, hnc17⟩ := nn5_ NB146_145.out; have hcz18_0 := cz5_ BK146.out 0 rfl; have hcz18_1 := cz5_ BK146.out 1 rfl; have hfz18_0 := blk_frozen BK146.out 0; have hfz18_1 := blk_frozen BK146.out 1
    go_wp2
    refine bodyPost_ret (results_list (rs := [.tmp 4, .cell 5 76, .tmp 6]) rfl (by simp) (.tmp (.cell gb146 76 #[.int .i64 0, .int .i64 0] (0, 0) _ rfl (by (with_reducible repeat (first | refine blk_drewN ?_ _ | refine blk_drew ?_ | refine blk_alloc ?_ _)); refine Far.put2_ #[.int .i64 0, .int .i64 0] rfl ?_; (with_reducible repeat (first | refine blk_drewN ?_ _ | refine blk_drew ?_ | refine blk_alloc ?_ _)); exact BK146.out) Try.underlying76 rfl (by kernel_rfl) (.tmp .nil)))) rfl ?_
    exact ⟨_, by first | rfl | (simp [errW_none, errW_some] <;> rfl) | (simp [*, errW_none, errW_some] <;> rfl), by (with_reducible repeat (first | apply Kd.R_alloc | apply Kd.R_drewN | apply Kd.R_drew)); exact Kd.R_mono (Far.rfar2_ (fun _ hk => hk.2) (Kd.R_types HO_7.out BK146.out (by decide))) (fun _ hk => trivial), belowNow⟩
   replace c16 := Bool.eq_false_iff.mpr c16; subst c16
   have H1 : (spec_Expand.l0 kj2 l1 y147 0 a0_0 a0_1) = some (r1, r2, r3, r4) := by rw [if_neg (show ¬ (false = true) by decide)] at H; exact H
   clear H; have H := H1; clear H1
   have H' := am_ H
   clear H
   go_wp2
   go_loopg [7, 8] kj2 (fun kq v7 v8 w' => ∃ (x7_2 : List Int) (x8_2 : Int) (x146000_2 : Int) (x146001_2 : Int) (x147000_2 : Int) (x147001_2 : Int), v8 = .int .i64 x8_2 ∧ Aside0 (spec_Expand.l0 kq l1 x7_2 x8_2 x146000_2 x146001_2 = some (r1, r2, r3, r4)) ∧ Aside0 (kq ≤ kj2) ∧ Aside0 (Kd.R (Kd.int .i64) 3 w' w.heap.size (fun _ => True) v7 x7_2) ∧ Aside0 (w'.heap[gb145]? = some (.cells #[.int .i64 x146000_2, .int .i64 x146001_2] 76 (0, 0))) ∧ Aside0 (w'.heap[gb146]? = some (.cells #[.int .i64 x147000_2, .int .i64 x147001_2] 76 (0, 0))) ∧ Aside0 (Below w.heap.size w w'))
   case atStart => exact ⟨(y147), (0), (a0_0), (a0_1), (0), (0), (by first | rfl | (simp; done) | (simp [*]; done)), H', ⟨Nat.le_refl _⟩, ⟨pR_ HO_7.out⟩, ⟨pB_ BK145.out⟩, ⟨pB_ BK146.out⟩, ⟨belowNow⟩⟩
   case round =>
    clear H'
    (try clear c1); (try clear p2); (try clear c6); (try clear c7); (try clear c9); (try clear c10); (try clear c13); (try clear c16); (try clear c17); (try clear hcz11_0 hcz11_1); (try clear hcz14_0 hcz14_1); (try clear hcz18_0 hcz18_1); (try clear hfz11_0 hfz11_1); (try clear hfz14_0 hfz14_1); (try clear hfz18_0 hfz18_1); (try clear p2); obtain ⟨x7_2, x8_2, x146000_2, x146001_2, x147000_2, x147001_2, rfl, HA, HK2, HO_7, BK145, BK146, HB⟩ := hrel
    cases gk with
    | zero => exact absurd HA.out (by simp [spec_Expand.l0])
    | succ k2 =>
     have H := HA.out; clear HA; simp only [spec_Expand.l0] at H
     by_cases c19 : x8_2 < (l1.length : Int)
     case neg =>
      rw [if_neg c19] at H; have c19b0 : decide (x8_2 < (l1.length : Int)) = false := decide_eq_false c19; clear c19; simp only [Option.some.injEq, Prod.mk.injEq] at H; obtain ⟨rfl, rfl, rfl, rfl⟩ := H
      try go_wp2
      have n0_ := am_ (Kd.R_drew HO_7.out); have n1_ := am_ (blk_drew BK145.out); have n2_ := am_ (blk_drew BK146.out); have n3_ := am_ (below_drew1 HB.out); clear HO_7 BK145 BK146 HB; have HO_7 := n0_; have BK145 := n1_; have BK146 := n2_; have HB := n3_; clear n0_ n1_ n2_ n3_
      refine start_ (n := 5) (S := fun w' => w'.cell? ⟨gb145, 0, none⟩ = some (.int .i64 x146000_2) ∧ w'.cell? ⟨gb145, 1, none⟩ = some (.int .i64 x146001_2)) (ds := []) #[false, false, false, false, false] (by kernel_rfl) rfl rfl ⟨(blk_cell BK145.out 0).trans rfl, (blk_cell BK145.out 1).trans rfl⟩ (fun hHeld => ?_)
      generalize wr.drew = w36 at HO_7 BK145 BK146 HB hHeld ⊢
      refine pure_ (i := 0) (N := some 45) (v := ?_) (a' := ?_) #[true, false, false, false, false] rfl rfl (by kernel_rfl) (fun _ _ _ h => h) (Or.inl ⟨by rfl, ?_⟩) ?_ ?_
      rotate_left
      ·intro w'
       go_simp
       with_reducible rfl
      rotate_left
      ·simp only [Act.put, List.setIfInBounds_toArray, List.set_cons_zero, List.set_cons_succ, i64_w, i32_w]
       rfl
      refine pure_ (i := 2) (N := some 4) (v := ?_) (a' := ?_) #[true, false, true, false, false] rfl rfl (by kernel_rfl) (fun _ _ _ h => h) (Or.inl ⟨by rfl, ?_⟩) ?_ ?_
      rotate_left
      ·intro w'
       go_simp
       with_reducible rfl
      rotate_left
      ·simp only [Act.put, List.setIfInBounds_toArray, List.set_cons_zero, List.set_cons_succ, i64_w, i32_w]
       rfl
      refine take_ (i := 1) (N := some 46) (v := ?_) (a' := ?_) #[true, true, true, false, false] rfl rfl (by kernel_rfl) (fun _ _ _ h => h) (Or.inl ⟨by rfl, ?_⟩) hHeld ?_ ?_
      rotate_left
      ·rintro w' ⟨s0, s1⟩
       go_simp
       with_reducible rfl
      rotate_left
      ·simp only [Act.put, List.setIfInBounds_toArray, List.set_cons_zero, List.set_cons_succ, i64_w, i32_w]
       rfl
      refine one_ (i := 3) (N := none) #[true, true, true, true, false] rfl rfl (by kernel_rfl) (by decide) (fun K hK => ?_)
      have hs37 : w36.cell? ⟨gb146, 0, none⟩ = some (.int .i64 x147000_2) := (blk_cell BK146.out 0).trans rfl; have hfs37 := blk_frozen BK146.out 0; have hns37_0 := NB145_146.out; have hms37_0 := NB146_145.out; have hs38 : w36.cell? ⟨gb146, 1, none⟩ = some (.int .i64 x147001_2) := (blk_cell BK146.out 1).trans rfl; have hfs38 := blk_frozen BK146.out 1; have hns38_0 := NB145_146.out; have hms38_0 := NB146_145.out
      refine skip_ (w1 := ?_) (by rfl) rfl ?_ ?_
      rotate_left
      ·go_simp
       rfl
      refine hK.out _ _ ⟨(Far.far2_ NB145_146.out hHeld.1), (Far.far2_ NB145_146.out hHeld.2)⟩ (fun hHeld => ?_)
      clear hK K
      refine pure_ (i := 4) (N := some 6) (v := ?_) (a' := ?_) #[true, true, true, true, true] rfl rfl (by kernel_rfl) (fun _ _ _ h => h) (Or.inl ⟨by rfl, ?_⟩) ?_ ?_
      rotate_left
      ·intro w'
       go_simp
       with_reducible rfl
      rotate_left
      ·simp only [Act.put, List.setIfInBounds_toArray, List.set_cons_zero, List.set_cons_succ, i64_w, i32_w]
       rfl
      refine done_ (by kernel_rfl) ?_
      try go_wp2
      refine bodyPost_ret (results_list (rs := [.tmp 4, .cell 5 76, .tmp 6]) rfl (by simp) (.tmp (.cell gb146 76 #[.int .i64 x146000_2, .int .i64 x146001_2] (0, 0) _ rfl (by (with_reducible repeat (first | refine blk_drewN ?_ _ | refine blk_drew ?_ | refine blk_alloc ?_ _)); refine Far.put2_ #[.int .i64 x147000_2, .int .i64 x147001_2] rfl ?_; (with_reducible repeat (first | refine blk_drewN ?_ _ | refine blk_drew ?_ | refine blk_alloc ?_ _)); exact BK146.out) Try.underlying76 rfl (by kernel_rfl) (.tmp .nil)))) rfl ?_
      exact ⟨_, by first | rfl | (simp [errW_none, errW_some] <;> rfl) | (simp [*, errW_none, errW_some] <;> rfl), by (with_reducible repeat (first | apply Kd.R_alloc | apply Kd.R_drewN | apply Kd.R_drew)); exact Kd.R_mono (Far.rfar2_ (fun _ hk => hk.2) (Kd.R_types HO_7.out BK146.out (by decide))) (fun _ hk => trivial), belowNow⟩

     rw [if_pos c19] at H; have c19b0 : decide (x8_2 < (l1.length : Int)) = true := decide_eq_true c19; clear c19
     by_cases c20 : 0 ≤ x8_2
     case neg =>
      rw [if_neg c20] at H
      exact absurd H (by simp)
     rw [if_pos c20] at H; have c20b0 : decide (0 ≤ x8_2) = true := decide_eq_true c20; clear c20; replace H := Option.bind_eq_some_iff.mp H; obtain ⟨t152, A210, H⟩ := H
     replace H : (if t152 = true then ((spec_l11Next.f k2 x146000_2 x146001_2 (rd l1 x8_2)).bind fun bt154 => (if x7_2.length < 17592186044416 then (spec_Expand.l0 k2 l1 (x7_2 ++ [bt154.1]) (wrap64 (x8_2 + 1)) bt154.1 bt154.2) else (none))) else (some ((([] : List Int)), 0, 0, false))) = some (r1, r2, r3, r4) := H
     have A21 := am_ A210; clear A210
     by_cases c22 : t152 = true
     case neg =>
      replace c22 := Bool.eq_false_iff.mpr c22; subst c22
      have H1 : (some ((([] : List Int)), 0, 0, false)) = some (r1, r2, r3, r4) := by rw [if_neg (show ¬ (false = true) by decide)] at H; exact H
      clear H; have H := H1; clear H1; obtain ⟨y159, hy159⟩ : ∃ y_ : List Int, y_ = (([] : List Int)) := ⟨_, rfl⟩
      replace H : (some (y159, 0, 0, false)) = some (r1, r2, r3, r4) := by first | (rw [hy159]; with_reducible exact H) | (have H2_ := (Option.bind_some _ _).symm.trans H; rw [hy159]; with_reducible exact H2_) | (have H2_ := (Option.bind_some _ _).symm.trans H; with_reducible exact H2_) | with_reducible exact H | (rw [hy159]; exact H) | exact H
      have Ny159 := am_ hy159; clear hy159; simp only [Option.some.injEq, Prod.mk.injEq] at H; obtain ⟨rfl, rfl, rfl, rfl⟩ := H
      have p151 : 0 ≤ (x8_2 : Int) := of_decide_eq_true (by first | (with_reducible assumption) | assumption)
      have q151 : x8_2 < (l1.length : Int) := of_decide_eq_true (by first | (with_reducible assumption) | assumption)
      obtain ⟨ad151, e151, hx151_0⟩ := Kd.at_int HR1.out x8_2 p151 q151
      cases e151
      replace hx151_0 := (HB.out.cell (World.block_lt_of_cell? w _ hx151_0)).trans hx151_0; replace p151 := eq_true p151; replace q151 := eq_true q151
      go_wp2_with (first | ((with_reducible refine gate_callee (f := 48) rfl ?_); refine goesL_ (some 30) rfl rfl Try.func48 (by kernel_rfl) rfl #[.int .i64 (rd l1 x8_2), .int .i64 0, .int .i64 15] rfl (by (try simp only [List.map_toArray, List.map_cons, List.map_nil]); first | done | rfl | (simp only [List.length_drop, List.length_take]; rfl)) ?_; (with_reducible refine (spec_l1In.calls (rd l1 x8_2) 0 15 false _ A21.out).mono ?_); rintro e w' ⟨rfl, ⟨nd, rfl⟩⟩; refine ⟨_, rfl, ?_⟩; (try (rw [drewN_self wr]; generalize hq_ : World.drewN wr _ = wr; have n0_ : Aside0 (Kd.R (Kd.int .i64) 3 wr w.heap.size (fun _ => True) u7 x7_2) := ⟨by rw [← hq_]; exact (pR_ HO_7.out)⟩; have n1_ : Aside0 (wr.heap[gb145]? = some (.cells #[.int .i64 x146000_2, .int .i64 x146001_2] 76 (0, 0))) := ⟨by rw [← hq_]; exact blkNow⟩; have n2_ : Aside0 (wr.heap[gb146]? = some (.cells #[.int .i64 x147000_2, .int .i64 x147001_2] 76 (0, 0))) := ⟨by rw [← hq_]; exact blkNow⟩; have n3_ : Aside0 (Below w.heap.size w wr) := ⟨by rw [← hq_]; exact belowNow⟩; clear HO_7 BK145 BK146 HB hq_; have HO_7 := n0_; have BK145 := n1_; have BK146 := n2_; have HB := n3_; clear n0_ n1_ n2_ n3_))) | ((with_reducible refine gate_dst (N := 32) rfl ?_); (try (refine gate_guard (by rfl) ?_; dsimp only)); refine Kd.R_lit (Kd.int .i64) _ 3 ?hg (N := 32) ?hd (xs := ([] : List Int)) (inner := []) (ok := fun _ => True) (okp := fun _ => True) ?hr ?hp (fun _ hk => hk) trivial (Below.refl _ _) (Nat.le_refl _) (by simp) ?_; (case hd => rfl); (case hg => rfl); (case hr => first | (go_simp; done) | (go_simp; rfl)); (case hp => exact (Reps.none _ _)); intro v160 w32 ho33 hb hg_ hnew_; clear hg_ hnew_; (first | rw [← Ny159.out] at ho33 | (simp only [Int.reduceToNat] at ho33; rw [← Ny159.out] at ho33)); have n0_ := am_ (Kd.R_elder' (pR_ HO_7.out) (Kd.R_base ho33) hb); have n1_ := am_ (Kd.R_lower (Kd.R_new' ho33 (Kd.R_lt (pR_ HO_7.out))) (below_size belowNow)); have n2_ := am_ (blkStep (g := gb145) hb); have n3_ := am_ (blkStep (g := gb146) hb); have n4_ := am_ (below_step belowNow hb); clear HO_7; clear BK145; clear BK146; clear HB; have HO_7 := n0_; have HO161 := n1_; have BK145 := n2_; have BK146 := n3_; have HB := n4_; clear n0_ n1_ n2_ n3_ n4_; clear hb ho33; have ⟨hnb34, hnc34⟩ := nn5_ NB146_145.out; have hcz35_0 := cz5_ BK146.out 0 rfl; have hcz35_1 := cz5_ BK146.out 1 rfl; have hfz35_0 := blk_frozen BK146.out 0; have hfz35_1 := blk_frozen BK146.out 1))
      refine bodyPost_ret (results_list (rs := [.tmp 4, .cell 5 76, .tmp 6]) rfl (by simp) (.tmp (.cell gb146 76 #[.int .i64 0, .int .i64 0] (0, 0) _ rfl (by (with_reducible repeat (first | refine blk_drewN ?_ _ | refine blk_drew ?_ | refine blk_alloc ?_ _)); refine Far.put2_ #[.int .i64 x147000_2, .int .i64 x147001_2] rfl ?_; (with_reducible repeat (first | refine blk_drewN ?_ _ | refine blk_drew ?_ | refine blk_alloc ?_ _)); exact BK146.out) Try.underlying76 rfl (by kernel_rfl) (.tmp .nil)))) rfl ?_
      exact ⟨_, by first | rfl | (simp [errW_none, errW_some] <;> rfl) | (simp [*, errW_none, errW_some] <;> rfl), by (with_reducible repeat (first | apply Kd.R_alloc | apply Kd.R_drewN | apply Kd.R_drew)); exact Kd.R_mono (Far.rfar2_ (fun _ hk => hk.2) (Kd.R_types HO161.out BK146.out (by decide))) (fun _ hk => trivial), belowNow⟩
     subst c22
     have H1 : ((spec_l11Next.f k2 x146000_2 x146001_2 (rd l1 x8_2)).bind fun bt154 => (if x7_2.length < 17592186044416 then (spec_Expand.l0 k2 l1 (x7_2 ++ [bt154.1]) (wrap64 (x8_2 + 1)) bt154.1 bt154.2) else (none))) = some (r1, r2, r3, r4) := by rw [if_pos rfl] at H; exact H
     clear H; have H := H1; clear H1; replace H := Option.bind_eq_some_iff.mp H; obtain ⟨⟨t154, t155⟩, A230, H⟩ := H
     replace H : (if x7_2.length < 17592186044416 then (spec_Expand.l0 k2 l1 (x7_2 ++ [t154]) (wrap64 (x8_2 + 1)) t154 t155) else (none)) = some (r1, r2, r3, r4) := H
     have A23 := am_ A230; clear A230
     by_cases c24 : x7_2.length < 17592186044416
     case neg =>
      rw [if_neg c24] at H
      exact absurd H (by simp)
     rw [if_pos c24] at H; have LMc24 := am_ c24; clear c24; obtain ⟨y156, hy156⟩ : ∃ y_ : List Int, y_ = (x7_2 ++ [t154]) := ⟨_, rfl⟩
     replace H : (spec_Expand.l0 k2 l1 y156 (wrap64 (x8_2 + 1)) t154 t155) = some (r1, r2, r3, r4) := by first | (rw [hy156]; with_reducible exact H) | (have H2_ := (Option.bind_some _ _).symm.trans H; rw [hy156]; with_reducible exact H2_) | (have H2_ := (Option.bind_some _ _).symm.trans H; with_reducible exact H2_) | with_reducible exact H | (rw [hy156]; exact H) | exact H
     have Ny156 := am_ hy156; clear hy156
     have H' := am_ H
     clear H
     have p151 : 0 ≤ (x8_2 : Int) := of_decide_eq_true (by first | (with_reducible assumption) | assumption)
     have q151 : x8_2 < (l1.length : Int) := of_decide_eq_true (by first | (with_reducible assumption) | assumption)
     obtain ⟨ad151, e151, hx151_0⟩ := Kd.at_int HR1.out x8_2 p151 q151
     cases e151
     replace hx151_0 := (HB.out.cell (World.block_lt_of_cell? w _ hx151_0)).trans hx151_0; replace p151 := eq_true p151; replace q151 := eq_true q151
     try go_wp2_with (first | ((with_reducible refine gate_callee (f := 48) rfl ?_); refine goesL_ (some 30) rfl rfl Try.func48 (by kernel_rfl) rfl #[.int .i64 (rd l1 x8_2), .int .i64 0, .int .i64 15] rfl (by (try simp only [List.map_toArray, List.map_cons, List.map_nil]); first | done | rfl | (simp only [List.length_drop, List.length_take]; rfl)) ?_; (with_reducible refine (spec_l1In.calls (rd l1 x8_2) 0 15 true _ A21.out).mono ?_); rintro e w' ⟨rfl, ⟨nd, rfl⟩⟩; refine ⟨_, rfl, ?_⟩; (try (rw [drewN_self wr]; generalize hq_ : World.drewN wr _ = wr; have n0_ : Aside0 (Kd.R (Kd.int .i64) 3 wr w.heap.size (fun _ => True) u7 x7_2) := ⟨by rw [← hq_]; exact (pR_ HO_7.out)⟩; have n1_ : Aside0 (wr.heap[gb145]? = some (.cells #[.int .i64 x146000_2, .int .i64 x146001_2] 76 (0, 0))) := ⟨by rw [← hq_]; exact blkNow⟩; have n2_ : Aside0 (wr.heap[gb146]? = some (.cells #[.int .i64 x147000_2, .int .i64 x147001_2] 76 (0, 0))) := ⟨by rw [← hq_]; exact blkNow⟩; have n3_ : Aside0 (Below w.heap.size w wr) := ⟨by rw [← hq_]; exact belowNow⟩; clear HO_7 BK145 BK146 HB hq_; have HO_7 := n0_; have BK145 := n1_; have BK146 := n2_; have HB := n3_; clear n0_ n1_ n2_ n3_))))
     have n0_ := am_ (Kd.R_drew HO_7.out); have n1_ := am_ (blk_drew BK145.out); have n2_ := am_ (blk_drew BK146.out); have n3_ := am_ (below_drew1 HB.out); clear HO_7 BK145 BK146 HB; have HO_7 := n0_; have BK145 := n1_; have BK146 := n2_; have HB := n3_; clear n0_ n1_ n2_ n3_
     have p153 : 0 ≤ (x8_2 : Int) := of_decide_eq_true (by first | (with_reducible assumption) | assumption)
     have q153 : x8_2 < (l1.length : Int) := of_decide_eq_true (by first | (with_reducible assumption) | assumption)
     obtain ⟨ad153, e153, hx153_0⟩ := Kd.at_int HR1.out x8_2 p153 q153; have hw153_0 := hx153_0
     obtain rfl : ad151 = ad153 := (by injection e153)
     replace hx153_0 := (HB.out.cell (World.block_lt_of_cell? w _ hx153_0)).trans hx153_0; replace p153 := eq_true p153; replace q153 := eq_true q153
     refine start_ (n := 7) (S := fun w' => w'.cell? ⟨gb145, 0, none⟩ = some (.int .i64 x146000_2) ∧ w'.cell? ⟨gb145, 1, none⟩ = some (.int .i64 x146001_2) ∧ w'.cell? (ad151.add (x8_2).toNat) = some (.int .i64 (rd l1 x8_2))) (ds := [6]) #[false, false, false, false, false, false, false] (by kernel_rfl) rfl rfl ⟨(blk_cell BK145.out 0).trans rfl, (blk_cell BK145.out 1).trans rfl, ((HB.out.cell (World.block_lt_of_cell? w _ hw153_0)).trans hw153_0)⟩ (fun hHeld => ?_)
     generalize wr.drew = w25 at HO_7 BK145 BK146 HB hx153_0 hHeld ⊢
     refine pure_ (i := 1) (N := some 35) (v := ?_) (a' := ?_) #[false, true, false, false, false, false, false] rfl rfl (by kernel_rfl) (fun _ _ _ h => h) (Or.inl ⟨by rfl, ?_⟩) ?_ ?_
     rotate_left
     ·intro w'
      go_simp
      with_reducible rfl
     rotate_left
     ·simp only [Act.put, List.setIfInBounds_toArray, List.set_cons_zero, List.set_cons_succ, i64_w, i32_w]
      rfl
     refine pure_ (i := 2) (N := some 36) (v := ?_) (a' := ?_) #[false, true, true, false, false, false, false] rfl rfl (by kernel_rfl) (fun _ _ _ h => h) (Or.inl ⟨by rfl, ?_⟩) ?_ ?_
     rotate_left
     ·intro w'
      go_simp
      with_reducible rfl
     rotate_left
     ·simp only [Act.put, List.setIfInBounds_toArray, List.set_cons_zero, List.set_cons_succ, i64_w, i32_w]
      rfl
     refine pure_ (i := 3) (N := some 37) (v := ?_) (a' := ?_) #[false, true, true, true, false, false, false] rfl rfl (by kernel_rfl) (fun _ _ _ h => h) (Or.inl ⟨by rfl, ?_⟩) ?_ ?_
     rotate_left
     ·intro w'
      go_simp
      with_reducible rfl
     rotate_left
     ·simp only [Act.put, List.setIfInBounds_toArray, List.set_cons_zero, List.set_cons_succ, i64_w, i32_w]
      rfl
     refine take_ (i := 0) (N := some 34) (v := ?_) (a' := ?_) #[true, true, true, true, false, false, false] rfl rfl (by kernel_rfl) (fun _ _ _ h => h) (Or.inl ⟨by rfl, ?_⟩) hHeld ?_ ?_
     rotate_left
     ·rintro w' ⟨s0, s1, s2⟩
      go_simp
      with_reducible rfl
     rotate_left
     ·simp only [Act.put, List.setIfInBounds_toArray, List.set_cons_zero, List.set_cons_succ, i64_w, i32_w]
      rfl
     refine take_ (i := 4) (N := some 38) (v := ?_) (a' := ?_) #[true, true, true, true, true, false, false] rfl rfl (by kernel_rfl) (fun _ _ _ h => h) (Or.inl ⟨by rfl, ?_⟩) hHeld ?_ ?_
     rotate_left
     ·rintro w' ⟨s0, s1, s2⟩
      go_simp
      with_reducible rfl
     rotate_left
     ·simp only [Act.put, List.setIfInBounds_toArray, List.set_cons_zero, List.set_cons_succ, i64_w, i32_w]
      rfl
     refine one_ (i := 5) (N := some 39) #[true, true, true, true, true, true, false] rfl rfl (by kernel_rfl) (by decide) (fun K hK => ?_)
     refine goes_ Try.func78 (by kernel_rfl) rfl #[.agg #[.int .i64 x146000_2, .int .i64 x146001_2], .int .i64 (rd l1 x8_2)] (by rfl) rfl rfl (by (try simp only [List.map_toArray, List.map_cons, List.map_nil]); first | done | rfl | (simp only [List.length_drop, List.length_take]; rfl)) ?_
     with_reducible refine (spec_l11Next.calls k2 x146000_2 x146001_2 (rd l1 x8_2) t154 t155 _ A23.out).mono ?_
     rintro e w26 ⟨rfl, hb⟩
     refine ⟨_, rfl, ?_⟩
     have n0_ := am_ (Kd.R_below (pR_ HO_7.out) hb)
     have n1_ := am_ (blkStep (g := gb145) hb); have n2_ := am_ (blkStep (g := gb146) hb); have n3_ := am_ (below_step belowNow hb); clear HO_7 BK145 BK146 HB; have HO_7 := n0_; have BK145 := n1_; have BK146 := n2_; have HB := n3_; clear n0_ n1_ n2_ n3_; (try clear hb); (try clear hb2); (try clear hk); (try clear hi)
     refine hK.out _ _ ⟨(blk_cell BK145.out 0).trans rfl, (blk_cell BK145.out 1).trans rfl, ((HB.out.cell (World.block_lt_of_cell? w _ hw153_0)).trans hw153_0)⟩ (fun hHeld => ?_)
     clear hK K
     refine norm_ (a' := ?_) ?_ ?_
     rotate_left
     ·show Act.put _ (some 39) _ = _
      simp only [Act.put, List.setIfInBounds_toArray, List.set_cons_zero, List.set_cons_succ, i64_w, i32_w]
      rfl
     refine last_ (i := 6) (N := none) #[true, true, true, true, true, true, true] rfl rfl (by kernel_rfl) (by decide) (fun K hK => ?_)
     have hs27 : w26.cell? ⟨gb145, 0, none⟩ = some (.int .i64 x146000_2) := (blk_cell BK145.out 0).trans rfl; have hfs27 := blk_frozen BK145.out 0; have hns27_1 := NB146_145.out; have hms27_1 := NB145_146.out; have hs28 : w26.cell? ⟨gb145, 1, none⟩ = some (.int .i64 x146001_2) := (blk_cell BK145.out 1).trans rfl; have hfs28 := blk_frozen BK145.out 1; have hns28_1 := NB146_145.out; have hms28_1 := NB145_146.out
     refine skip_ (w1 := ?_) (by rfl) rfl ?_ ?_
     rotate_left
     ·go_simp
      rfl
     refine hK.out _ _ ?_
     clear hK K
     refine done_ (by kernel_rfl) ?_
     have ⟨hnb29, hnc29⟩ := nn5_ NB145_146.out; have hcz30_0 := cz5_ BK145.out 0 rfl; have hcz30_1 := cz5_ BK145.out 1 rfl; have hfz30_0 := blk_frozen BK145.out 0; have hfz30_1 := blk_frozen BK145.out 1
     try go_wp2_with (first | ((with_reducible refine gate_builtin (b := .append) (xs := #[.tmp 40, .tmp 43]) rfl ?_); (try (refine gate_guard (by rfl) ?_; dsimp only)); at_builtin; refine Kd.R_append (Kd.int .i64) (w0 := w) w.heap.size rfl (.tmp 40) (.tmp 43) 48 3 (.int .i64 0) 8 rfl Try.underlying48 info3 rfl (by decide) (by omega) u7 x7_2 t154 [.int .i64 t154] (fun _ => True) (fun _ => False) rfl (by first | (go_simp; done) | (go_simp; rfl)) ?aP (fun _ hk => hk.elim) ?aF ?aO ?aB ?aS ?aL ?_; (case aP => exact rfl); (case aB => exact belowNow); (case aF => exact (fun _ _ => trivial)); (case aO => exact (by (with_reducible repeat (first | apply Kd.R_alloc | apply Kd.R_drewN | apply Kd.R_drew)); exact Kd.R_mono (Far.rfar2_ (fun _ hk => hk.2) (Kd.R_types HO_7.out BK145.out (by decide))) (fun _ hk => trivial))); (case aS => exact (below_size belowNow)); (case aL => have := LMc24.out; omega); intro v157 w31 ho hb hg hat; rw [← Ny156.out] at ho; have n0_ := am_ (blk_grown (g := gb145) (o := .cells #[.int .i64 t154, .int .i64 t155] 76 (0, 0)) (by (with_reducible repeat (first | refine blk_drewN ?_ _ | refine blk_drew ?_ | refine blk_alloc ?_ _)); refine Far.put2_ #[.int .i64 x146000_2, .int .i64 x146001_2] rfl ?_; (with_reducible repeat (first | refine blk_drewN ?_ _ | refine blk_drew ?_ | refine blk_alloc ?_ _)); exact BK145.out) hg (Kd.R_ne HO_7.out BK145.out (by decide))); have n1_ := am_ (blk_grown (g := gb146) (o := .cells #[.int .i64 x147000_2, .int .i64 x147001_2] 76 (0, 0)) (blkFars) hg (Kd.R_ne HO_7.out BK146.out (by decide))); have n2_ := am_ (hb); have n3_ := am_ (ho); clear BK145; clear BK146; clear HB; clear HO_7; have BK145 := n0_; have BK146 := n1_; have HB := n2_; have HO158 := n3_; clear n0_ n1_ n2_ n3_; clear ho hb hg hat))
     go_roundg k2
     case measure => have := HJ2.out; have := HK2.out; omega
     case rel => exact ⟨(y156), (wrap64 (x8_2 + 1)), (t154), (t155), (x147000_2), (x147001_2), (by first | rfl | (simp; done) | (simp [*]; done)), H', ⟨by have := HJ2.out; have := HK2.out; omega⟩, ⟨pR_ HO158.out⟩, ⟨pB_ BK145.out⟩, ⟨pB_ BK146.out⟩, ⟨belowNow⟩⟩
/-! ### spec_OfFrame: function 59 -/
def spec_OfFrame.n1 (b : Int) : Int := IntKind.i64.wrap (IntKind.u8.wrap (Int.tdiv b 16))
def spec_OfFrame.n2 (b : Int) : Int := IntKind.i64.wrap (Int.tmod b 16)
def spec_OfFrame.f (k : Nat) (l0 : Int) (a1_0 : Int) (a1_1 : Int) (a1_2 : Int) (a1_3 : Int) (a1_4 : Int) (a1_5 : Int) (a1_6 : Int) (a1_7 : Int) (a1_8 : Int) (a1_9 : Int) (a1_10 : Int) (a1_11 : Int) (a1_12 : Int) (a1_13 : Int) (a1_14 : Int) (a1_15 : Int) : Option (List Int × Int × Int × Bool) := (spec_l2Level.f l0).bind fun t => if t = true then (if rd [a1_0, a1_1, a1_2, a1_3, a1_4, a1_5, a1_6, a1_7, a1_8, a1_9, a1_10, a1_11, a1_12, a1_13, a1_14, a1_15] 0 > 48 then some ([], 0, 0, false) else spec_Expand.f k l0 (wrap64 (rd [a1_0, a1_1, a1_2, a1_3, a1_4, a1_5, a1_6, a1_7, a1_8, a1_9, a1_10, a1_11, a1_12, a1_13, a1_14, a1_15] 0)) (([a1_0, a1_1, a1_2, a1_3, a1_4, a1_5, a1_6, a1_7, a1_8, a1_9, a1_10, a1_11, a1_12, a1_13, a1_14, a1_15].drop 1).flatMap fun b => [spec_OfFrame.n1 b, spec_OfFrame.n2 b])) else some ([], 0, 0, false)
theorem spec_OfFrame.mono : ∀ l0 a1_0 a1_1 a1_2 a1_3 a1_4 a1_5 a1_6 a1_7 a1_8 a1_9 a1_10 a1_11 a1_12 a1_13 a1_14 a1_15 k, LeO (spec_OfFrame.f k l0 a1_0 a1_1 a1_2 a1_3 a1_4 a1_5 a1_6 a1_7 a1_8 a1_9 a1_10 a1_11 a1_12 a1_13 a1_14 a1_15) (spec_OfFrame.f (k + 1) l0 a1_0 a1_1 a1_2 a1_3 a1_4 a1_5 a1_6 a1_7 a1_8 a1_9 a1_10 a1_11 a1_12 a1_13 a1_14 a1_15) := by
 intro l0 a1_0 a1_1 a1_2 a1_3 a1_4 a1_5 a1_6 a1_7 a1_8 a1_9 a1_10 a1_11 a1_12 a1_13 a1_14 a1_15 k
 unfold spec_OfFrame.f
 repeat' first
  | (with_reducible exact spec_Expand.mono _ _ _ _)
  | (with_reducible exact LeO.refl _)
  | (with_reducible refine LeO.ite ?_ ?_)
  | (with_reducible refine LeO.bind ?_ (fun _ => ?_))
theorem spec_OfFrame.list (a1_0 : Int) (a1_1 : Int) (a1_2 : Int) (a1_3 : Int) (a1_4 : Int) (a1_5 : Int) (a1_6 : Int) (a1_7 : Int) (a1_8 : Int) (a1_9 : Int) (a1_10 : Int) (a1_11 : Int) (a1_12 : Int) (a1_13 : Int) (a1_14 : Int) (a1_15 : Int) : (#[.int .u8 a1_0, .int .u8 a1_1, .int .u8 a1_2, .int .u8 a1_3, .int .u8 a1_4, .int .u8 a1_5, .int .u8 a1_6, .int .u8 a1_7, .int .u8 a1_8, .int .u8 a1_9, .int .u8 a1_10, .int .u8 a1_11, .int .u8 a1_12, .int .u8 a1_13, .int .u8 a1_14, .int .u8 a1_15] : Array Value) = Arr.u8s [a1_0, a1_1, a1_2, a1_3, a1_4, a1_5, a1_6, a1_7, a1_8, a1_9, a1_10, a1_11, a1_12, a1_13, a1_14, a1_15] := rfl
set_option maxHeartbeats 8000000 in
set_option maxRecDepth 100000 in
theorem spec_OfFrame.calls (k : Nat) (l0 : Int) (a1_0 : Int) (a1_1 : Int) (a1_2 : Int) (a1_3 : Int) (a1_4 : Int) (a1_5 : Int) (a1_6 : Int) (a1_7 : Int) (a1_8 : Int) (a1_9 : Int) (a1_10 : Int) (a1_11 : Int) (a1_12 : Int) (a1_13 : Int) (a1_14 : Int) (a1_15 : Int) (r1 : List Int) (r2 : Int) (r3 : Int) (r4 : Bool) (w : World) (h : spec_OfFrame.f k l0 a1_0 a1_1 a1_2 a1_3 a1_4 a1_5 a1_6 a1_7 a1_8 a1_9 a1_10 a1_11 a1_12 a1_13 a1_14 a1_15 = some (r1, r2, r3, r4)) :
  Calls Try.prog 59 #[.int .i64 l0, .agg #[.int .u8 a1_0, .int .u8 a1_1, .int .u8 a1_2, .int .u8 a1_3, .int .u8 a1_4, .int .u8 a1_5, .int .u8 a1_6, .int .u8 a1_7, .int .u8 a1_8, .int .u8 a1_9, .int .u8 a1_10, .int .u8 a1_11, .int .u8 a1_12, .int .u8 a1_13, .int .u8 a1_14, .int .u8 a1_15]] w fun e w' => ∃ v0_ : Value, e = .returned (.tuple #[v0_, .agg #[.int .i64 r2, .int .i64 r3], .bool r4]) ∧ Kd.R (Kd.int .i64) 3 w' w.heap.size (fun _ => True) v0_ r1 ∧ Below w.heap.size w w' := by
 have hu := Try.underlying39; have HB := am_ (Below.refl w.heap.size w)
 rw [spec_OfFrame.list a1_0 a1_1 a1_2 a1_3 a1_4 a1_5 a1_6 a1_7 a1_8 a1_9 a1_10 a1_11 a1_12 a1_13 a1_14 a1_15]
 rw [spec_OfFrame.f] at h
 generalize hl : [a1_0, a1_1, a1_2, a1_3, a1_4, a1_5, a1_6, a1_7, a1_8, a1_9, a1_10, a1_11, a1_12, a1_13, a1_14, a1_15] = l at h ⊢
 have hlen : l.length = 16 := by rw [← hl]; rfl
 clear hl; have HL := am_ hlen; obtain ⟨t, At, H⟩ := Option.bind_eq_some_iff.mp h; clear h hlen
 cases t with
 | false =>
  rw [if_neg (by decide)] at H
  have H' := am_ H
  clear H
  have HQ := am_ (show ∀ W : World, Calls Try.prog 50 #[.int .i64 l0] W (fun e w' => e = .returned (.bool false) ∧ Below W.heap.size W w') from fun W => (spec_l2Level.calls l0 false W At).mono (fun e w' hq => by obtain ⟨h1, nd, rfl⟩ := hq; exact ⟨h1, pw_below_drewN (Below.refl _ _) nd⟩))
  obtain ⟨rfl, rfl, rfl, rfl⟩ : r1 = [] ∧ r2 = 0 ∧ r3 = 0 ∧ r4 = false := by simpa [eq_comm] using H'.out
  clear H' At
  go_enter Try.func59, Try.ntmps59
  go_wp2_with (first | ((with_reducible refine gate_dst (N := 3) rfl ?_); refine box_event ?hg (N := 3) ?hd (cs := Arr.u8s l) (t := 39) ?hr ?_; (case hd => rfl); (case hg => rfl); (case hr => first | (go_simp; done) | (go_simp; rfl)); intro gA hg_ wgA hbox_ hb_; have SA := am_ hbox_; have n_ := am_ (below_step HB.out hb_); clear HB; have HB := n_; clear n_ hg_ hbox_ hb_) | ((with_reducible refine gate_dst (N := 5) rfl ?_); refine box_event ?hg (N := 5) ?hd (cs := #[.int .i64 0, .int .i64 0]) (t := 76) ?hr ?_; (case hd => rfl); (case hg => rfl); (case hr => first | (go_simp; done) | (go_simp; rfl)); intro gC hg_ wgC hbox_ hb_; have GC := am_ (show w.heap.size ≤ gC by rw [hg_]; exact below_size HB.out); have NAC := am_ (show gA ≠ gC by rw [hg_]; exact Nat.ne_of_lt (blk_lt SA.out)); have n0_ := am_ (blk_below SA.out hb_); have SC := am_ hbox_; have n_ := am_ (below_step HB.out hb_); clear HB SA; have HB := n_; have SA := n0_; clear n_ n0_ hg_ hbox_ hb_) | (go_at_call 50; (with_reducible refine (HQ.out _).mono ?_); rintro e w3 ⟨rfl, hb_⟩; (try refine ⟨_, rfl, ?_⟩); have n0_ := am_ (blk_below SA.out hb_); have n1_ := am_ (blk_below SC.out hb_); have n3_ := am_ (below_step HB.out hb_); clear SA SC HB; have SA := n0_; have SC := n1_; have HB := n3_; clear n0_ n1_ n3_; clear hb_) | ((with_reducible refine gate_dst (N := 17) rfl ?_); refine Kd.R_lit (Kd.int .i64) _ 3 ?hg (N := 17) ?hd (xs := ([] : List Int)) (inner := []) (ok := fun _ => True) (okp := fun _ => True) ?hr ?hp (fun _ hk => hk) trivial (Below.refl _ _) (Nat.le_refl _) (by simp) ?_; (case hd => rfl); (case hg => rfl); (case hr => first | (go_simp; done) | (go_simp; rfl)); (case hp => exact (Reps.none _ _)); intro v17 w4 ho_ hb_ hg_ hnew_; clear hg_ hnew_; have HO := am_ (Kd.R_lower ho_ (below_size HB.out)); have n0_ := am_ (blk_below SA.out hb_); have n1_ := am_ (blk_below SC.out hb_); have n3_ := am_ (below_step HB.out hb_); clear SA SC HB; have SA := n0_; have SC := n1_; have HB := n3_; clear n0_ n1_ n3_; clear ho_ hb_) | ((with_reducible refine gate_store (t := 76) (p := 5) rfl ?_); refine Arr.store_all (T := 76) (p := 5) (g := gC) (old := #[.int .i64 0, .int .i64 0]) (cs := #[.int .i64 0, .int .i64 0]) (t := 76) rfl rfl rfl rfl rfl SC.out (by kernel_rfl) rfl (by first | rfl | simp [Value.oneCell']) ?_; intro w5 hs_ hk_ hB_; have n0_ := am_ ((hk_ _ NAC.out).trans SA.out); have n2_ := am_ (Kd.R_mono (Kd.R_step (Kd.R_types HO.out SC.out (by decide)) (fun k hk _ => hk_ k hk.2)) (fun _ hk => hk.1)); have n3_ := am_ (hB_ _ _ HB.out GC.out); clear SA SC HB HO; have SA := n0_; have SC := am_ hs_; have HB := n3_; have HO := n2_; clear n0_ n2_ n3_ hs_ hk_ hB_; have hc0 := (blk_cell SC.out 0).trans rfl; have hc1 := (blk_cell SC.out 1).trans rfl))
  refine bodyPost_ret (results_list (rs := [.tmp 4, .cell 5 76, .tmp 6]) rfl (by simp) (.tmp (.cell gC 76 #[.int .i64 0, .int .i64 0] (0, 0) _ rfl SC.out Try.underlying76 rfl (by kernel_rfl) (.tmp .nil)))) rfl ?_
  exact ⟨_, rfl, HO.out, HB.out⟩
 | true =>
  rw [if_pos rfl] at H
  have HQ := am_ (show ∀ W : World, Calls Try.prog 50 #[.int .i64 l0] W (fun e w' => e = .returned (.bool true) ∧ Below W.heap.size W w') from fun W => (spec_l2Level.calls l0 true W At).mono (fun e w' hq => by obtain ⟨h1, nd, rfl⟩ := hq; exact ⟨h1, pw_below_drewN (Below.refl _ _) nd⟩))
  clear At
  by_cases c48 : rd l 0 > 48
  case pos =>
   rw [if_pos c48] at H
   obtain ⟨rfl, rfl, rfl, rfl⟩ : r1 = [] ∧ r2 = 0 ∧ r3 = 0 ∧ r4 = false := by simpa [eq_comm] using H
   clear H; have c48b : decide (rd l 0 > 48) = true := decide_eq_true c48; clear c48
   go_enter Try.func59, Try.ntmps59
   go_wp2_with (first | ((with_reducible refine gate_dst (N := 3) rfl ?_); refine box_event ?hg (N := 3) ?hd (cs := Arr.u8s l) (t := 39) ?hr ?_; (case hd => rfl); (case hg => rfl); (case hr => first | (go_simp; done) | (go_simp; rfl)); intro gA hg_ wgA hbox_ hb_; have SA := am_ hbox_; have n_ := am_ (below_step HB.out hb_); clear HB; have HB := n_; clear n_ hg_ hbox_ hb_) | ((with_reducible refine gate_dst (N := 5) rfl ?_); refine box_event ?hg (N := 5) ?hd (cs := #[.int .i64 0, .int .i64 0]) (t := 76) ?hr ?_; (case hd => rfl); (case hg => rfl); (case hr => first | (go_simp; done) | (go_simp; rfl)); intro gC hg_ wgC hbox_ hb_; have GC := am_ (show w.heap.size ≤ gC by rw [hg_]; exact below_size HB.out); have NAC := am_ (show gA ≠ gC by rw [hg_]; exact Nat.ne_of_lt (blk_lt SA.out)); have n0_ := am_ (blk_below SA.out hb_); have SC := am_ hbox_; have n_ := am_ (below_step HB.out hb_); clear HB SA; have HB := n_; have SA := n0_; clear n_ n0_ hg_ hbox_ hb_) | (go_at_call 50; (with_reducible refine (HQ.out _).mono ?_); rintro e w3 ⟨rfl, hb_⟩; (try refine ⟨_, rfl, ?_⟩); have n0_ := am_ (blk_below SA.out hb_); have n1_ := am_ (blk_below SC.out hb_); have n3_ := am_ (below_step HB.out hb_); clear SA SC HB; have SA := n0_; have SC := n1_; have HB := n3_; clear n0_ n1_ n3_; clear hb_; have hcA : w3.cell? ⟨gA, 0, none⟩ = some (.int .u8 (rd l 0)) := Arr.cell_of SA.out 0 (by decide) (by have := HL.out; omega)) | ((with_reducible refine gate_dst (N := 17) rfl ?_); refine Kd.R_lit (Kd.int .i64) _ 3 ?hg (N := 17) ?hd (xs := ([] : List Int)) (inner := []) (ok := fun _ => True) (okp := fun _ => True) ?hr ?hp (fun _ hk => hk) trivial (Below.refl _ _) (Nat.le_refl _) (by simp) ?_; (case hd => rfl); (case hg => rfl); (case hr => first | (go_simp; done) | (go_simp; rfl)); (case hp => exact (Reps.none _ _)); intro v17 w4 ho_ hb_ hg_ hnew_; clear hg_ hnew_; have HO := am_ (Kd.R_lower ho_ (below_size HB.out)); have n0_ := am_ (blk_below SA.out hb_); have n1_ := am_ (blk_below SC.out hb_); have n3_ := am_ (below_step HB.out hb_); clear SA SC HB; have SA := n0_; have SC := n1_; have HB := n3_; clear n0_ n1_ n3_; clear ho_ hb_) | ((with_reducible refine gate_store (t := 76) (p := 5) rfl ?_); refine Arr.store_all (T := 76) (p := 5) (g := gC) (old := #[.int .i64 0, .int .i64 0]) (cs := #[.int .i64 0, .int .i64 0]) (t := 76) rfl rfl rfl rfl rfl SC.out (by kernel_rfl) rfl (by first | rfl | simp [Value.oneCell']) ?_; intro w5 hs_ hk_ hB_; have n0_ := am_ ((hk_ _ NAC.out).trans SA.out); have n2_ := am_ (Kd.R_mono (Kd.R_step (Kd.R_types HO.out SC.out (by decide)) (fun k hk _ => hk_ k hk.2)) (fun _ hk => hk.1)); have n3_ := am_ (hB_ _ _ HB.out GC.out); clear SA SC HB HO; have SA := n0_; have SC := am_ hs_; have HB := n3_; have HO := n2_; clear n0_ n2_ n3_ hs_ hk_ hB_; have hc0 := (blk_cell SC.out 0).trans rfl; have hc1 := (blk_cell SC.out 1).trans rfl))
   refine bodyPost_ret (results_list (rs := [.tmp 4, .cell 5 76, .tmp 6]) rfl (by simp) (.tmp (.cell gC 76 #[.int .i64 0, .int .i64 0] (0, 0) _ rfl SC.out Try.underlying76 rfl (by kernel_rfl) (.tmp .nil)))) rfl ?_
   exact ⟨_, rfl, HO.out, HB.out⟩
  rw [if_neg c48] at H; have c48b : decide (rd l 0 > 48) = false := decide_eq_false c48; clear c48; have HE := am_ H; clear H
  go_enter Try.func59, Try.ntmps59
  go_wp2_with (first | ((with_reducible refine gate_dst (N := 3) rfl ?_); refine box_event ?hg (N := 3) ?hd (cs := Arr.u8s l) (t := 39) ?hr ?_; (case hd => rfl); (case hg => rfl); (case hr => first | (go_simp; done) | (go_simp; rfl)); intro gA hg_ wgA hbox_ hb_; have SA := am_ hbox_; have n_ := am_ (below_step HB.out hb_); clear HB; have HB := n_; clear n_ hg_ hbox_ hb_) | ((with_reducible refine gate_dst (N := 5) rfl ?_); refine box_event ?hg (N := 5) ?hd (cs := #[.int .i64 0, .int .i64 0]) (t := 76) ?hr ?_; (case hd => rfl); (case hg => rfl); (case hr => first | (go_simp; done) | (go_simp; rfl)); intro gC hg_ wgC hbox_ hb_; have GC := am_ (show w.heap.size ≤ gC by rw [hg_]; exact below_size HB.out); have NAC := am_ (show gA ≠ gC by rw [hg_]; exact Nat.ne_of_lt (blk_lt SA.out)); have n0_ := am_ (blk_below SA.out hb_); have SC := am_ hbox_; have n_ := am_ (below_step HB.out hb_); clear HB SA; have HB := n_; have SA := n0_; clear n_ n0_ hg_ hbox_ hb_) | (go_at_call 50; (with_reducible refine (HQ.out _).mono ?_); rintro e w3 ⟨rfl, hb_⟩; (try refine ⟨_, rfl, ?_⟩); have n0_ := am_ (blk_below SA.out hb_); have n1_ := am_ (blk_below SC.out hb_); have n3_ := am_ (below_step HB.out hb_); clear SA SC HB; have SA := n0_; have SC := n1_; have HB := n3_; clear n0_ n1_ n3_; clear hb_; have hcA : w3.cell? ⟨gA, 0, none⟩ = some (.int .u8 (rd l 0)) := Arr.cell_of SA.out 0 (by decide) (by have := HL.out; omega)) | ((with_reducible refine gate_dst (N := 19) rfl ?_); refine Kd.R_lit (Kd.int .i64) _ 3 ?hg (N := 19) ?hd (xs := ([] : List Int)) (inner := []) (ok := fun _ => True) (okp := fun _ => True) ?hr ?hp (fun _ hk => hk) trivial (Below.refl _ _) (Nat.le_refl _) (by simp) ?_; (case hd => rfl); (case hg => rfl); (case hr => first | (go_simp; done) | (go_simp; rfl)); (case hp => exact (Reps.none _ _)); intro v19 w4 ho_ hb_ hg_ hnew_; clear hg_ hnew_; have HO := am_ (Kd.R_lower ho_ (below_size HB.out)); have n0_ := am_ (blk_below SA.out hb_); have n1_ := am_ (blk_below SC.out hb_); have n3_ := am_ (below_step HB.out hb_); clear SA SC HB; have SA := n0_; have SC := n1_; have HB := n3_; clear n0_ n1_ n3_; clear ho_ hb_))
  clear c48b
  go_loopg [7, 8] 15 (fun g v7 v8 w' => ∃ (x : Int) (i : Nat) (ys : List Int), v8 = .int .i64 x ∧ Aside0 (x = (i : Int) ∧ 1 ≤ i ∧ i ≤ 16 ∧ g = 16 - i ∧ ys = (((l.take i).drop 1).flatMap fun b => [spec_OfFrame.n1 b, spec_OfFrame.n2 b]) ∧ ys.length ≤ 32) ∧ Aside0 (w'.heap[gA]? = some (.cells (Arr.u8s l) 39 (0, 0))) ∧ Aside0 (w'.heap[gC]? = some (.cells #[.int .i64 0, .int .i64 0] 76 (0, 0))) ∧ Aside0 (Kd.R (Kd.int .i64) 3 w' w.heap.size (fun _ => True) v7 ys) ∧ Aside0 (Below w.heap.size w w'))
  case atStart => exact ⟨1, 1, [], rfl, ⟨⟨rfl, Nat.le_refl _, by decide, rfl, by simp, by simp⟩⟩, SA, SC, HO, HB⟩
  case round =>
   clear SA SC HO HB; obtain ⟨x, i, ys, rfl, HI, SA, SC, HO, HB⟩ := hrel
   by_cases c : i < 16
   ·have cx : x < 16 := by have := HI.out.1; omega
    have cx0 : 0 ≤ x := by have := HI.out.1; omega
    have cx1 : x < l.length := by have := HL.out; omega
    have cb : decide (x < 16) = true := decide_eq_true cx; have CX := am_ (And.intro cx0 cx1); clear c; have px := eq_true cx; have px0 := eq_true cx0; clear cx cx0 cx1; have LY := am_ (show ys.length ≤ 32 from HI.out.2.2.2.2.2)
    go_upto_region 7 with (fail)
    ·skip
     refine wp_region_held_drew (S := fun w' => w'.heap[gA]? = some (.cells (Arr.u8s l) 39 (0, 0))) rfl (blk_drew SA.out) (fun HS => ?_)
     refine Arl.take (i := 0) (v := ?_) rfl (by kernel_rfl) (by kernel_rfl) (by kernel_rfl) (fun _ _ _ h => h) (by rfl) ?_ HS ?_
     rotate_left
     ·(intro w0 hS0; (try have hcell := Arr.cell_of hS0 x CX.out.1 CX.out.2); go_simp; try (with_reducible rfl))
     simp only [Act.put, List.setIfInBounds_toArray, List.set_cons_zero, List.set_cons_succ]
     refine Arl.take (i := 1) (v := ?_) rfl (by kernel_rfl) (by kernel_rfl) (by kernel_rfl) (fun _ _ _ h => h) (by rfl) ?_ HS ?_
     rotate_left
     ·(intro w0 hS0; (try have hcell := Arr.cell_of hS0 x CX.out.1 CX.out.2); go_simp; try (with_reducible rfl))
     simp only [Act.put, List.setIfInBounds_toArray, List.set_cons_zero, List.set_cons_succ]
     refine Arl.take (i := 2) (v := ?_) rfl (by kernel_rfl) (by kernel_rfl) (by kernel_rfl) (fun _ _ _ h => h) (by rfl) ?_ HS ?_
     rotate_left
     ·(intro w0 hS0; (try have hcell := Arr.cell_of hS0 x CX.out.1 CX.out.2); go_simp; try (with_reducible rfl))
     simp only [Act.put, List.setIfInBounds_toArray, List.set_cons_zero, List.set_cons_succ]
     refine Arl.take (i := 3) (v := ?_) rfl (by kernel_rfl) (by kernel_rfl) (by kernel_rfl) (fun _ _ _ h => h) (by rfl) ?_ HS ?_
     rotate_left
     ·(intro w0 hS0; (try have hcell := Arr.cell_of hS0 x CX.out.1 CX.out.2); go_simp; try (with_reducible rfl))
     simp only [Act.put, List.setIfInBounds_toArray, List.set_cons_zero, List.set_cons_succ]
     refine Arl.take (i := 4) (v := ?_) rfl (by kernel_rfl) (by kernel_rfl) (by kernel_rfl) (fun _ _ _ h => h) (by rfl) ?_ HS ?_
     rotate_left
     ·(intro w0 hS0; (try have hcell := Arr.cell_of hS0 x CX.out.1 CX.out.2); go_simp; try (with_reducible rfl))
     simp only [Act.put, List.setIfInBounds_toArray, List.set_cons_zero, List.set_cons_succ]
     refine Arl.take (i := 5) (v := ?_) rfl (by kernel_rfl) (by kernel_rfl) (by kernel_rfl) (fun _ _ _ h => h) (by rfl) ?_ HS ?_
     rotate_left
     ·(intro w0 hS0; (try have hcell := Arr.cell_of hS0 x CX.out.1 CX.out.2); go_simp; try (with_reducible rfl))
     simp only [Act.put, List.setIfInBounds_toArray, List.set_cons_zero, List.set_cons_succ]
     refine Arl.take (i := 6) (v := ?_) rfl (by kernel_rfl) (by kernel_rfl) (by kernel_rfl) (fun _ _ _ h => h) (by rfl) ?_ HS ?_
     rotate_left
     ·(intro w0 hS0; (try have hcell := Arr.cell_of hS0 x CX.out.1 CX.out.2); go_simp; try (with_reducible rfl))
     simp only [Act.put, List.setIfInBounds_toArray, List.set_cons_zero, List.set_cons_succ]
     refine Arl.take (i := 7) (v := ?_) rfl (by kernel_rfl) (by kernel_rfl) (by kernel_rfl) (fun _ _ _ h => h) (by rfl) ?_ HS ?_
     rotate_left
     ·(intro w0 hS0; (try have hcell := Arr.cell_of hS0 x CX.out.1 CX.out.2); go_simp; try (with_reducible rfl))
     simp only [Act.put, List.setIfInBounds_toArray, List.set_cons_zero, List.set_cons_succ]
     refine Arl.take (i := 8) (v := ?_) rfl (by kernel_rfl) (by kernel_rfl) (by kernel_rfl) (fun _ _ _ h => h) (by rfl) ?_ HS ?_
     rotate_left
     ·(intro w0 hS0; (try have hcell := Arr.cell_of hS0 x CX.out.1 CX.out.2); go_simp; try (with_reducible rfl))
     simp only [Act.put, List.setIfInBounds_toArray, List.set_cons_zero, List.set_cons_succ]
     refine Arl.take (i := 9) (v := ?_) rfl (by kernel_rfl) (by kernel_rfl) (by kernel_rfl) (fun _ _ _ h => h) (by rfl) ?_ HS ?_
     rotate_left
     ·(intro w0 hS0; (try have hcell := Arr.cell_of hS0 x CX.out.1 CX.out.2); go_simp; try (with_reducible rfl))
     simp only [Act.put, List.setIfInBounds_toArray, List.set_cons_zero, List.set_cons_succ]
     refine Arl.take (i := 10) (v := ?_) rfl (by kernel_rfl) (by kernel_rfl) (by kernel_rfl) (fun _ _ _ h => h) (by rfl) ?_ HS ?_
     rotate_left
     ·(intro w0 hS0; (try have hcell := Arr.cell_of hS0 x CX.out.1 CX.out.2); go_simp; try (with_reducible rfl))
     simp only [Act.put, List.setIfInBounds_toArray, List.set_cons_zero, List.set_cons_succ]
     refine wpAnyH_ready (rs := [11]) (by kernel_rfl) (by simp) ?_
     refine AllReadyH.cons (o := _) (Arl.nth_some rfl) (fun K hK => ?_) AllReadyH.nil
     refine Kd.R_lit_step (Kd.int .i64) _ 3 ?hg (N := 35) ?hd (xs := [spec_OfFrame.n1 (rd l x), spec_OfFrame.n2 (rd l x)]) (inner := [.int .i64 (spec_OfFrame.n1 (rd l x)), .int .i64 (spec_OfFrame.n2 (rd l x))]) (ok := fun _ => True) (okp := fun _ => True) ?hr ?hp (fun _ hk => hk) trivial (Below.refl _ _) (Nat.le_refl _) (by simp) ?_
     (case hd => rfl)
     (case hg => rfl)
     (case hr => simp only [spec_OfFrame.n1, spec_OfFrame.n2]; first | (go_simp; done) | (go_simp; rfl))
     (case hp => exact Reps.one rfl (Reps.one rfl (Reps.none _ _)))
     intro v35 w5 ho hb_ hg_ hnew_
     obtain ⟨A35, c35, rfl, hle, hC⟩ := Kd.R_reads ho; have n0_ := am_ (blk_below (blk_drew SA.out) hb_); have n1_ := am_ (blk_below (blk_drew SC.out) hb_); have n2_ := am_ (Kd.R_below (Kd.R_drew HO.out) hb_); have n3_ := am_ (below_step (below_drew1 HB.out) hb_); have HC := am_ hC; clear SA SC HO HB HS ho hb_ hg_ hnew_ hC hle; have SA := n0_; have SC := n1_; have HO := n2_; have HB := n3_; clear n0_ n1_ n2_ n3_
     refine hK.out _ _ SA.out (fun HS => ?_)
     simp only [Act.put, List.setIfInBounds_toArray, List.set_cons_zero, List.set_cons_succ]
     refine wpAnyH_ready (rs := [12]) (by kernel_rfl) (by simp) ?_
     refine AllReadyH.cons (o := _) (Arl.nth_some rfl) (fun K hK => ?_) AllReadyH.nil
     refine Kd.R_append_rows_step (Kd.int .i64) (w0 := w) w.heap.size (by rfl) (.tmp 24) (.tmp 35) 48 3 (.int .i64 0) 8 rfl Try.underlying48 info3 rfl (by decide) (by omega) _ ys [spec_OfFrame.n1 (rd l x), spec_OfFrame.n2 (rd l x)] _ _ _ (fun _ => True) (fun _ => False) rfl rfl ?aO ?aR (fun _ _ h => h) (fun _ h => h.elim) ?aF ?aB ?aS ?aL ?_
     (case aR => exact HC.out)
     (case aO => exact HO.out)
     (case aB => exact HB.out)
     (case aF => exact (fun _ _ => trivial))
     (case aS => exact below_size HB.out)
     (case aL => have := LY.out; simp only [List.length_cons, List.length_nil]; omega)
     intro v13 w6 ho hb_ hg_ hat
     have n0_ := am_ (blk_grown SA.out hg_ (Kd.R_ne HO.out SA.out (by decide)))
     have n1_ := am_ (blk_grown SC.out hg_ (Kd.R_ne HO.out SC.out (by decide)))
     refine hK.out _ _ n0_.out (fun HS => ?_)
     simp only [Act.put, List.setIfInBounds_toArray, List.set_cons_zero, List.set_cons_succ]
     refine Arl.take (i := 13) (v := ?_) rfl (by kernel_rfl) (by kernel_rfl) (by kernel_rfl) (fun _ _ _ h => h) (by rfl) ?_ HS ?_
     rotate_left
     ·(intro w0 hS0; (try have hcell := Arr.cell_of hS0 x CX.out.1 CX.out.2); go_simp; try (with_reducible rfl))
     simp only [Act.put, List.setIfInBounds_toArray, List.set_cons_zero, List.set_cons_succ]
     refine wpAnyH_done (by kernel_rfl) ?_ _
     have SA' := n0_
     have SC' := n1_
     have HO' := am_ ho
     have HB' := am_ hb_
     clear SA SC HO HB n0_ n1_ ho hb_ hg_ hat HS
     go_wp2
     go_roundg (15 - i)
     case measure => have := HI.out; have := of_eq_true px; omega
     case rel =>
      have hx := HI.out; have cx := of_eq_true px
      refine ⟨wrap64 (x + 1), i + 1, _, rfl, ⟨⟨by rw [hx.1]; unfold wrap64; omega, by omega, by omega, by omega, ?_, ?_⟩⟩, SA', SC', HO', HB'⟩
      ·rw [hx.2.2.2.2.1, hx.1]
       exact Arr.two_more spec_OfFrame.n1 spec_OfFrame.n2 l i hx.2.1 (by have := HL.out; omega)
      ·have h1 := hx.2.2.2.2.1
       rw [h1, List.length_append, Arr.two_len]
       simp only [List.length_append, List.length_cons, List.length_nil, List.length_drop, List.length_take]
       omega
   ·have hi : i = 16 := by have := HI.out.2.2.1; omega
    have hys := HI.out.2.2.2.2.1
    rw [hi, List.take_of_length_le (by have := HL.out; omega)] at hys
    have hx := HI.out.1
    have cb : decide (x < 16) = false := decide_eq_false (by omega)
    clear c; rw [← hys] at HE; clear hys hx HI; obtain ⟨A7, c7, rfl, hle, hC⟩ := Kd.R_reads HO.out; have HC7 := am_ hC; have HLE := am_ hle; clear hC hle
    have hcA : wr.cell? ⟨gA, 0, none⟩ = some (.int .u8 (rd l 0)) := Arr.cell_of SA.out 0 (by decide) (by have := HL.out; omega)
    go_wp2_with (first | (go_at_call 69; (with_reducible refine (spec_Expand.calls k l0 (wrap64 (rd l 0)) A7 c7 _ r1 r2 r3 r4 _ HC7.out HLE.out HE.out).mono ?_); rintro e w6 ⟨v9, rfl, hR_, hb_⟩; (try refine ⟨_, rfl, ?_⟩); have n2_ := am_ (Kd.R_lower hR_ (below_size HB.out)); have n0_ := am_ (blk_below SA.out hb_); have n1_ := am_ (blk_below SC.out hb_); have n3_ := am_ (below_step HB.out hb_); clear SA SC HB; have SA := n0_; have SC := n1_; have HB := n3_; clear n0_ n1_ n3_; clear HO; have HO := n2_; clear n2_ hR_ hb_) | ((with_reducible refine gate_store (t := 76) (p := 5) rfl ?_); refine Arr.store_all (T := 76) (p := 5) (g := gC) (old := #[.int .i64 0, .int .i64 0]) (cs := #[.int .i64 r2, .int .i64 r3]) (t := 76) rfl rfl rfl rfl rfl SC.out (by kernel_rfl) rfl (by first | rfl | simp [Value.oneCell']) ?_; intro w8 hs_ hk_ hB_; have n0_ := am_ ((hk_ _ NAC.out).trans SA.out); have n2_ := am_ (Kd.R_mono (Kd.R_step (Kd.R_types HO.out SC.out (by decide)) (fun k hk _ => hk_ k hk.2)) (fun _ hk => hk.1)); have n3_ := am_ (hB_ _ _ HB.out GC.out); clear SA SC HB HO; have SA := n0_; have SC := am_ hs_; have HB := n3_; have HO := n2_; clear n0_ n2_ n3_ hs_ hk_ hB_; have hc0 := (blk_cell SC.out 0).trans rfl; have hc1 := (blk_cell SC.out 1).trans rfl))
    refine bodyPost_ret (results_list (rs := [.tmp 4, .cell 5 76, .tmp 6]) rfl (by simp) (.tmp (.cell gC 76 #[.int .i64 r2, .int .i64 r3] (0, 0) _ rfl SC.out Try.underlying76 rfl (by kernel_rfl) (.tmp .nil)))) rfl ?_
    exact ⟨_, rfl, HO.out, HB.out⟩

end Go.Proofs.Ytbgdmbjipladoaa.PFnExactPlay
