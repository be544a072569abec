-- laid by a program of this session (wip/lay/lay.py); Lean checks it
import Derived.Test.YtbgdmbjipladoaaVFnExactPlayShort
import Derived.Test.YtbgdmbjipladoaaPFnExactPlayx0
import Derived.Test.YtbgdmbjipladoaaPFnExactPlayx2
namespace Go.Proofs.Ytbgdmbjipladoaa.PFnExactPlay
-- squashed
open Go.RowKit Go.Proofs.YtbgdmbjipladoaaW.PrintWords Go.Proofs.YtbgdmbjipladoaaW.PrintLast Go.Proofs.YtbgdmbjipladoaaW.PrintMore Go.Proofs.Ytbgdmbjipladoaa.Short
attribute [local go_sem] max2_int min2_int max_two min_two max_three min_three max_four min_four   -- for this text's walks alone
set_option linter.unusedVariables false
set_option linter.unusedSimpArgs false

theorem cz4_ {w : World} {g : Nat} {t : TypeId} {cs : Array Value} {v : Value} (h : w.heap[g]? = some (.cells cs t (0, 0))) (i : Nat) (e : cs[i]? = some v) : w.cell? ⟨g, i, none⟩ = some v := (blk_cell h i).trans e
theorem nn4_ {a b : Nat} (h : a ≠ b) : a ≠ b ∧ b ≠ a := ⟨h, h.symm⟩
/-! ### spec_l12Copy: function 52 -/
def spec_l12Copy.f (a0_0 : Int) (a0_1 : Int) (a0_2 : Int) (a0_3 : Int) (a0_4 : Int) (l0_5 : List (S44)) : Option (Int × Int × Int × Int × Int × (List (S44))) := (some (([] : List (S44)) : List (S44))).bind fun y125 => (if y125.length + l0_5.length < 4398046511104 then (some (a0_0, a0_1, a0_2, a0_3, a0_4, (y125 ++ l0_5))) else (none))
set_option maxHeartbeats 8000000 in
set_option maxRecDepth 100000 in
theorem spec_l12Copy.calls (a0_0 : Int) (a0_1 : Int) (a0_2 : Int) (a0_3 : Int) (a0_4 : Int) (A0_5 : Option Addr) (c0_5 : Nat) (l0_5 : List (S44)) (r1 : Int) (r2 : Int) (r3 : Int) (r4 : Int) (r5 : Int) (r6 : List (S44)) (w : World) (hr0_5 : Kd.C k44 w A0_5 l0_5.length l0_5) (hc0_5 : l0_5.length ≤ c0_5) (h : spec_l12Copy.f a0_0 a0_1 a0_2 a0_3 a0_4 l0_5 = some (r1, r2, r3, r4, r5, r6)) :
  Calls Try.prog 52 #[.agg #[.int .i64 a0_0, .int .i64 a0_1, .int .i64 a0_2, .int .i64 a0_3, .int .i64 a0_4, .slice A0_5 l0_5.length c0_5]] w fun e w' => ∃ v5_ : Value, e = .returned (.agg #[.int .i64 r1, .int .i64 r2, .int .i64 r3, .int .i64 r4, .int .i64 r5, v5_]) ∧ Kd.R k44 44 w' w.heap.size (fun _ => True) v5_ r6 ∧ Below w.heap.size w w' := by
 have hu35 := Try.underlying35; have HR0_5 := am_ hr0_5; have HC0_5 := am_ hc0_5; clear hr0_5 hc0_5; have HB := am_ (Below.refl w.heap.size w)
 have H : ((some (([] : List (S44)) : List (S44))).bind fun y125 => (if y125.length + l0_5.length < 4398046511104 then (some (a0_0, a0_1, a0_2, a0_3, a0_4, (y125 ++ l0_5))) else (none))) = some (r1, r2, r3, r4, r5, r6) := h
 clear h; obtain ⟨y125, hy125⟩ : ∃ y_ : List (S44), y_ = (([] : List (S44))) := ⟨_, rfl⟩
 replace H : (if y125.length + l0_5.length < 4398046511104 then (some (a0_0, a0_1, a0_2, a0_3, a0_4, (y125 ++ l0_5))) else (none)) = some (r1, r2, r3, r4, r5, r6) := by first | (rw [hy125]; with_reducible exact H) | (have H2_ := (Option.bind_some _ _).symm.trans H; rw [hy125]; with_reducible exact H2_) | (have H2_ := (Option.bind_some _ _).symm.trans H; with_reducible exact H2_) | with_reducible exact H | (rw [hy125]; exact H) | exact H
 have Ny125 := am_ hy125; clear hy125
 by_cases c2 : y125.length + l0_5.length < 4398046511104
 case neg =>
  rw [if_neg c2] at H
  exact absurd H (by simp)

 rw [if_pos c2] at H; have LMc2 := am_ c2; clear c2; obtain ⟨y128, hy128⟩ : ∃ y_ : List (S44), y_ = (y125 ++ l0_5) := ⟨_, rfl⟩
 replace H : (some (a0_0, a0_1, a0_2, a0_3, a0_4, y128)) = some (r1, r2, r3, r4, r5, r6) := by first | (rw [hy128]; with_reducible exact H) | (have H2_ := (Option.bind_some _ _).symm.trans H; rw [hy128]; with_reducible exact H2_) | (have H2_ := (Option.bind_some _ _).symm.trans H; with_reducible exact H2_) | with_reducible exact H | (rw [hy128]; exact H) | exact H
 have Ny128 := am_ hy128; clear hy128; simp only [Option.some.injEq, Prod.mk.injEq] at H; obtain ⟨rfl, rfl, rfl, rfl, rfl, rfl⟩ := H
 go_enter Try.func52, Try.ntmps52
 go_wp2_with (first | ((with_reducible refine gate_dst (N := 1) rfl ?_); refine box_event ?hg (N := 1) ?hd (cs := #[.int .i64 a0_0, .int .i64 a0_1, .int .i64 a0_2, .int .i64 a0_3, .int .i64 a0_4, .slice A0_5 l0_5.length c0_5]) (t := 35) ?hr ?_; (case hd => rfl); (case hg => rfl); (case hr => first | (go_simp; done) | (go_simp; rfl)); intro gb123 hg w3 hbox hb; have n0_ := am_ (below_step belowNow hb); have n1_ := am_ (hbox); have n2_ := am_ ((by rw [hg]; exact (below_size belowNow) : w.heap.size ≤ gb123)); have n3_ := n2_; clear HB; have HB := n0_; have BK123 := n1_; have GW123 := n2_; have GE123 := n3_; clear n0_ n1_ n2_ n3_; clear hb hbox hg) | ((with_reducible refine gate_dst (N := 2) rfl ?_); refine box_event ?hg (N := 2) ?hd (cs := #[.int .i64 0, .int .i64 0, .int .i64 0, .int .i64 0, .int .i64 0, .slice none 0 0]) (t := 35) ?hr ?_; (case hd => rfl); (case hg => rfl); (case hr => first | (go_simp; done) | (go_simp; rfl)); intro gb124 hg w4 hbox hb; have n0_ := am_ (blkStep (g := gb123) hb); have n1_ := am_ (below_step belowNow hb); have n2_ := am_ (hbox); have n3_ := am_ ((by rw [hg]; exact (below_size belowNow) : w.heap.size ≤ gb124)); have n4_ := n3_; have n5_ := am_ ((by rw [hg]; exact Nat.ne_of_lt (blkLt (g := gb123)) : gb123 ≠ gb124)); have n6_ := am_ ((by rw [hg]; exact Nat.ne_of_gt (blkLt (g := gb123)) : gb124 ≠ gb123)); clear BK123; clear HB; have BK123 := n0_; have HB := n1_; have BK124 := n2_; have GW124 := n3_; have GE124 := n4_; have NB123_124 := n5_; have NB124_123 := n6_; clear n0_ n1_ n2_ n3_ n4_ n5_ n6_; clear hb hbox hg) | ((with_reducible refine gate_dst (N := 3) rfl ?_); refine Kd.R_lit k44 _ 44 ?hg (N := 3) ?hd (xs := ([] : List (S44))) (inner := []) (ok := fun _ => True) (okp := fun _ => True) ?hr ?hp (fun _ hk => hk) trivial (Below.refl _ _) (Nat.le_refl _) (by simp) ?_; (case hd => rfl); (case hg => rfl); (case hr => first | (go_simp; done) | (go_simp; rfl)); (case hp => exact (Reps.none _ _)); intro v126 w5 ho6 hb hg_ hnew_; clear hg_ hnew_; (first | rw [← Ny125.out] at ho6 | (simp only [Int.reduceToNat] at ho6; rw [← Ny125.out] at ho6)); have HO127 := am_ (Kd.R_lower ho6 (below_size belowNow)); replace BK123 := am_ (blkStep (g := gb123) hb); replace BK124 := am_ (blkStep (g := gb124) hb); replace HB := am_ (below_step belowNow hb); clear hb ho6; have ⟨hnb7, hnc7⟩ := nn4_ NB123_124.out; have hcz8_0 := cz4_ BK123.out 0 rfl; have hcz8_1 := cz4_ BK123.out 1 rfl; have hcz8_2 := cz4_ BK123.out 2 rfl; have hcz8_3 := cz4_ BK123.out 3 rfl; have hcz8_4 := cz4_ BK123.out 4 rfl; have hcz8_5 := cz4_ BK123.out 5 rfl; have hfz8_0 := blk_frozen BK123.out 0; have hfz8_1 := blk_frozen BK123.out 1; have hfz8_2 := blk_frozen BK123.out 2; have hfz8_3 := blk_frozen BK123.out 3; have hfz8_4 := blk_frozen BK123.out 4; have hfz8_5 := blk_frozen BK123.out 5) | ((with_reducible refine gate_builtin (b := .append) (xs := #[.tmp 3, .tmp 5]) rfl ?_); at_builtin; refine Kd.R_append_rows k44 (w0 := w) w.heap.size rfl (.tmp 3) (.tmp 5) 26 44 (.agg #[(.int .i64 0), (.int .i64 0), (.int .u8 0), (.int .u8 0), (.int .u8 0), (.int .u8 0), (.int .u8 0), (.int .u8 0), (.int .u8 0), (.int .u8 0), (.int .u8 0), (.int .u8 0), (.int .u8 0), (.int .u8 0), (.int .u8 0), (.int .u8 0), (.int .u8 0), (.int .u8 0)]) 32 rfl Try.underlying26 info44 rfl (by decide) (by omega) v126 y125 l0_5 _ _ _ (fun _ => True) (fun _ => False) rfl rfl ?aO ?aR (fun _ _ h => h) (fun _ h => h.elim) ?aF ?aB ?aS ?aL ?_; (case aR => repeat (first | exact (Kd.C_below HR0_5.out HB.out) | (with_reducible refine Kd.C_alloc ?_ _) | (with_reducible refine Kd.C_drewN ?_ _) | (with_reducible refine Kd.C_drew ?_))); (case aB => exact belowNow); (case aF => exact (fun _ _ => trivial)); (case aO => exact (pR_ HO127.out)); (case aS => exact (below_size belowNow)); (case aL => have := LMc2.out; omega); intro v129 w9 ho hb hg hat; rw [← Ny128.out] at ho; have n0_ := am_ (blk_grown (g := gb123) (o := .cells #[.int .i64 a0_0, .int .i64 a0_1, .int .i64 a0_2, .int .i64 a0_3, .int .i64 a0_4, .slice A0_5 l0_5.length c0_5] 35 (0, 0)) blkNow hg (Kd.R_ne HO127.out BK123.out (by decide))); have n1_ := am_ (blk_grown (g := gb124) (o := .cells #[.int .i64 0, .int .i64 0, .int .i64 0, .int .i64 0, .int .i64 0, .slice none 0 0] 35 (0, 0)) blkNow hg (Kd.R_ne HO127.out BK124.out (by decide))); have n2_ := am_ (hb); have n3_ := am_ (ho); clear BK123; clear BK124; clear HB; clear HO127; have BK123 := n0_; have BK124 := n1_; have HB := n2_; have HO130 := n3_; clear n0_ n1_ n2_ n3_; clear ho hb hg hat; obtain ⟨Ao10, co10, eo10⟩ := Kd.R_slice HO130.out; subst eo10; have hcz11_0 := cz4_ BK123.out 0 rfl; have hcz11_1 := cz4_ BK123.out 1 rfl; have hcz11_2 := cz4_ BK123.out 2 rfl; have hcz11_3 := cz4_ BK123.out 3 rfl; have hcz11_4 := cz4_ BK123.out 4 rfl; have hcz11_5 := cz4_ BK123.out 5 rfl; have hfz11_0 := blk_frozen BK123.out 0; have hfz11_1 := blk_frozen BK123.out 1; have hfz11_2 := blk_frozen BK123.out 2; have hfz11_3 := blk_frozen BK123.out 3; have hfz11_4 := blk_frozen BK123.out 4; have hfz11_5 := blk_frozen BK123.out 5; have hcz12_0 := cz4_ BK124.out 0 rfl; have hcz12_1 := cz4_ BK124.out 1 rfl; have hcz12_2 := cz4_ BK124.out 2 rfl; have hcz12_3 := cz4_ BK124.out 3 rfl; have hcz12_4 := cz4_ BK124.out 4 rfl; have hcz12_5 := cz4_ BK124.out 5 rfl; have hfz12_0 := blk_frozen BK124.out 0; have hfz12_1 := blk_frozen BK124.out 1; have hfz12_2 := blk_frozen BK124.out 2; have hfz12_3 := blk_frozen BK124.out 3; have hfz12_4 := blk_frozen BK124.out 4; have hfz12_5 := blk_frozen BK124.out 5))
 refine bodyPost_ret (results_cell_row rfl _ _ gb124 35 #[.int .i64 a0_0, .int .i64 a0_1, .int .i64 a0_2, .int .i64 a0_3, .int .i64 a0_4, .slice Ao10 y128.length co10] (0, 0) _ rfl (by (with_reducible repeat (first | refine blk_drewN ?_ _ | refine blk_drew ?_ | refine blk_alloc ?_ _)); refine Far.put6_ #[.int .i64 0, .int .i64 0, .int .i64 0, .int .i64 0, .int .i64 0, .slice none 0 0] rfl ?_; (with_reducible repeat (first | refine blk_drewN ?_ _ | refine blk_drew ?_ | refine blk_alloc ?_ _)); refine blk_far ?_ NB124_123.out _; (with_reducible repeat (first | refine blk_drewN ?_ _ | refine blk_drew ?_ | refine blk_alloc ?_ _)); exact BK124.out) Try.underlying35 rfl (by kernel_rfl)) rfl ?_
 exact ⟨_, by first | rfl | (simp [errW_none, errW_some] <;> rfl) | (simp [*, errW_none, errW_some] <;> rfl), by (with_reducible repeat (first | apply Kd.R_alloc | apply Kd.R_drewN | apply Kd.R_drew)); exact Kd.R_mono (Far.rfar6_ (fun _ hk => hk.2) (Kd.R_far (p := ⟨gb123, 5, none⟩) (Kd.R_types (Kd.R_types HO130.out BK123.out (by decide)) BK124.out (by decide)) (fun _ hk => hk.1.2) (.slice Ao10 y128.length co10))) (fun _ hk => trivial), belowNow⟩
/-! ### spec_l11Coder: function 77 -/
def spec_l11Coder.f (a0_0 : Int) (a0_1 : Int) : Option (Bool) := (spec_l2Level.f a0_0).bind fun t132 => (if t132 = true then ((spec_l1In.f a0_1 0 48).bind fun t133 => (some t133)) else (some false))
set_option maxHeartbeats 8000000 in
set_option maxRecDepth 100000 in
theorem spec_l11Coder.calls (a0_0 : Int) (a0_1 : Int) (r : Bool) (w : World) (h : spec_l11Coder.f a0_0 a0_1 = some r) :
  Calls Try.prog 77 #[.agg #[.int .i64 a0_0, .int .i64 a0_1]] w fun e w' => e = .returned (.bool r) ∧ Below w.heap.size w w' := by
 have hu76 := Try.underlying76; have HB := am_ (Below.refl w.heap.size w)
 have H : ((spec_l2Level.f a0_0).bind fun t132 => (if t132 = true then ((spec_l1In.f a0_1 0 48).bind fun t133 => (some t133)) else (some false))) = some r := h
 clear h; replace H := Option.bind_eq_some_iff.mp H; obtain ⟨t132, A20, H⟩ := H
 replace H : (if t132 = true then ((spec_l1In.f a0_1 0 48).bind fun t133 => (some t133)) else (some false)) = some r := H
 have A2 := am_ A20; clear A20
 by_cases c3 : t132 = true
 case neg =>
  replace c3 := Bool.eq_false_iff.mpr c3; subst c3
  have H1 : (some false) = some r := by rw [if_neg (show ¬ (false = true) by decide)] at H; exact H
  clear H; have H := H1; clear H1; obtain rfl := Option.some.inj H
  go_enter Try.func77, Try.ntmps77
  go_wp2_with (first | ((with_reducible refine gate_dst (N := 1) rfl ?_); refine box_event ?hg (N := 1) ?hd (cs := #[.int .i64 a0_0, .int .i64 a0_1]) (t := 76) ?hr ?_; (case hd => rfl); (case hg => rfl); (case hr => first | (go_simp; done) | (go_simp; rfl)); intro gb131 hg w7 hbox hb; have n0_ := am_ (below_step belowNow hb); have n1_ := am_ (hbox); have n2_ := am_ ((by rw [hg]; exact (below_size belowNow) : w.heap.size ≤ gb131)); have n3_ := n2_; clear HB; have HB := n0_; have BK131 := n1_; have GW131 := n2_; have GE131 := n3_; clear n0_ n1_ n2_ n3_; clear hb hbox hg; have hcz8_0 := cz4_ BK131.out 0 rfl; have hcz8_1 := cz4_ BK131.out 1 rfl; have hfz8_0 := blk_frozen BK131.out 0; have hfz8_1 := blk_frozen BK131.out 1) | ((with_reducible refine gate_callee (f := 50) rfl ?_); refine goesL_ (some 5) rfl rfl Try.func50 (by kernel_rfl) rfl #[.int .i64 a0_0] rfl (by (try simp only [List.map_toArray, List.map_cons, List.map_nil]); first | done | rfl | (simp only [List.length_drop, List.length_take]; rfl)) ?_; (with_reducible refine (spec_l2Level.calls a0_0 false _ A2.out).mono ?_); rintro e w' ⟨rfl, ⟨nd, rfl⟩⟩; refine ⟨_, rfl, ?_⟩))
  go_ret
  exact ⟨by first | rfl | (simp [errW_none, errW_some] <;> rfl) | (simp [*, errW_none, errW_some] <;> rfl), belowNow⟩

 subst c3
 have H1 : ((spec_l1In.f a0_1 0 48).bind fun t133 => (some t133)) = some r := by rw [if_pos rfl] at H; exact H
 clear H; have H := H1; clear H1; replace H := Option.bind_eq_some_iff.mp H; obtain ⟨t133, A40, H⟩ := H
 replace H : (some t133) = some r := H
 have A4 := am_ A40; clear A40; obtain rfl := Option.some.inj H
 go_enter Try.func77, Try.ntmps77
 go_wp2_with (first | ((with_reducible refine gate_dst (N := 1) rfl ?_); refine box_event ?hg (N := 1) ?hd (cs := #[.int .i64 a0_0, .int .i64 a0_1]) (t := 76) ?hr ?_; (case hd => rfl); (case hg => rfl); (case hr => first | (go_simp; done) | (go_simp; rfl)); intro gb131 hg w5 hbox hb; have n0_ := am_ (below_step belowNow hb); have n1_ := am_ (hbox); have n2_ := am_ ((by rw [hg]; exact (below_size belowNow) : w.heap.size ≤ gb131)); have n3_ := n2_; clear HB; have HB := n0_; have BK131 := n1_; have GW131 := n2_; have GE131 := n3_; clear n0_ n1_ n2_ n3_; clear hb hbox hg; have hcz6_0 := cz4_ BK131.out 0 rfl; have hcz6_1 := cz4_ BK131.out 1 rfl; have hfz6_0 := blk_frozen BK131.out 0; have hfz6_1 := blk_frozen BK131.out 1) | ((with_reducible refine gate_callee (f := 50) rfl ?_); refine goesL_ (some 5) rfl rfl Try.func50 (by kernel_rfl) rfl #[.int .i64 a0_0] rfl (by (try simp only [List.map_toArray, List.map_cons, List.map_nil]); first | done | rfl | (simp only [List.length_drop, List.length_take]; rfl)) ?_; (with_reducible refine (spec_l2Level.calls a0_0 true _ A2.out).mono ?_); rintro e w' ⟨rfl, ⟨nd, rfl⟩⟩; refine ⟨_, rfl, ?_⟩) | (go_at_call 48; (with_reducible refine (spec_l1In.calls a0_1 0 48 t133 _ A4.out).mono ?_); rintro e w' ⟨rfl, ⟨nd, rfl⟩⟩))
 go_ret
 exact ⟨by first | rfl | (simp [errW_none, errW_some] <;> rfl) | (simp [*, errW_none, errW_some] <;> rfl), belowNow⟩
/-! ### spec_StepSize: function 84 -/
def spec_StepSize.l0 : Nat → Int → Int → Int → Option (Int)
 | 0, _, _, _ => none
 | k + 1, x0, x3, x4 => if x4 < x0 then (spec_StepSize.l0 k x0 (wrap64 ((wrap64 (Int.tdiv (wrap64 (11 * x3)) 10)) + 1)) (wrap64 (x4 + 1))) else (some x3)
def spec_StepSize.f (k : Nat) (a0 : Int) : Option (Int) := (spec_l1In.f a0 0 48).bind fun t134 => (if t134 = true then (spec_StepSize.l0 k a0 7 0) else (some 0))
theorem spec_StepSize.mono_l : ∀ k, (∀ y0 y1 y2, LeO (spec_StepSize.l0 k y0 y1 y2) (spec_StepSize.l0 (k + 1) y0 y1 y2))
 | 0 => fun _ _ _ r h => by simp [spec_StepSize.l0] at h
 | k + 1 => by
  have ih0 := spec_StepSize.mono_l k
  ·intro y0 y1 y2
   unfold spec_StepSize.l0
   repeat' first
   | (with_reducible exact ih0 _ _ _)
   | (with_reducible exact LeO.refl _)
   | (with_reducible exact LeO.none _)
   | (with_reducible refine LeO.ite ?_ ?_)
   | (with_reducible refine LeO.bind ?_ (fun _ => ?_))
   | exact ih0 _ _ _
   | exact LeO.none _
   | refine LeO.ite ?_ ?_
   | refine LeO.bind ?_ (fun _ => ?_)
theorem spec_StepSize.mono : ∀ a0 k, LeO (spec_StepSize.f k a0) (spec_StepSize.f (k + 1) a0) := by
 intro a0 k
 have ih0 := spec_StepSize.mono_l k
 unfold spec_StepSize.f
 repeat' first
   | (with_reducible exact ih0 _ _ _)
   | (with_reducible exact LeO.refl _)
   | (with_reducible exact LeO.none _)
   | (with_reducible refine LeO.ite ?_ ?_)
   | (with_reducible refine LeO.bind ?_ (fun _ => ?_))
   | exact ih0 _ _ _
   | exact LeO.none _
   | refine LeO.ite ?_ ?_
   | refine LeO.bind ?_ (fun _ => ?_)
set_option maxHeartbeats 8000000 in
set_option maxRecDepth 100000 in
theorem spec_StepSize.calls (k : Nat) (a0 : Int) (r : Int) (w : World) (h : spec_StepSize.f k a0 = some r) :
  Calls Try.prog 84 #[.int .i64 a0] w fun e w' => e = .returned (.int .i64 r) ∧ Drawn0 w w' := by
 have H : ((spec_l1In.f a0 0 48).bind fun t134 => (if t134 = true then (spec_StepSize.l0 k a0 7 0) else (some 0))) = some r := h
 clear h; replace H := Option.bind_eq_some_iff.mp H; obtain ⟨t134, A20, H⟩ := H
 replace H : (if t134 = true then (spec_StepSize.l0 k a0 7 0) else (some 0)) = some r := H
 have A2 := am_ A20; clear A20
 by_cases c3 : t134 = true
 case neg =>
  replace c3 := Bool.eq_false_iff.mpr c3; subst c3
  have H1 : (some 0) = some r := by rw [if_neg (show ¬ (false = true) by decide)] at H; exact H
  clear H; have H := H1; clear H1; obtain rfl := Option.some.inj H
  go_enter Try.func84, Try.ntmps84
  go_wp2_with (first | ((with_reducible refine gate_callee (f := 48) rfl ?_); refine goesL_ (some 6) rfl rfl Try.func48 (by kernel_rfl) rfl #[.int .i64 a0, .int .i64 0, .int .i64 48] rfl (by (try simp only [List.map_toArray, List.map_cons, List.map_nil]); first | done | rfl | (simp only [List.length_drop, List.length_take]; rfl)) ?_; (with_reducible refine (spec_l1In.calls a0 0 48 false _ A2.out).mono ?_); rintro e w' ⟨rfl, ⟨nd, rfl⟩⟩; refine ⟨_, rfl, ?_⟩))
  go_ret
  exact ⟨by first | rfl | (simp; done) | (simp [*]; done), by repeat (first | exact Drawn0.refl _ | apply Drawn0.step)⟩

 subst c3
 have H1 : (spec_StepSize.l0 k a0 7 0) = some r := by rw [if_pos rfl] at H; exact H
 clear H; have H := H1; clear H1
 have H' := am_ H
 clear H
 go_enter Try.func84, Try.ntmps84
 go_wp2_with (first | ((with_reducible refine gate_callee (f := 48) rfl ?_); refine goesL_ (some 6) rfl rfl Try.func48 (by kernel_rfl) rfl #[.int .i64 a0, .int .i64 0, .int .i64 48] rfl (by (try simp only [List.map_toArray, List.map_cons, List.map_nil]); first | done | rfl | (simp only [List.length_drop, List.length_take]; rfl)) ?_; (with_reducible refine (spec_l1In.calls a0 0 48 true _ A2.out).mono ?_); rintro e w' ⟨rfl, ⟨nd, rfl⟩⟩; refine ⟨_, rfl, ?_⟩))
 go_loopg [3, 4] k (fun kq v3 v4 w' => ∃ (x3_1 : Int) (x4_1 : Int), v3 = .int .i64 x3_1 ∧ v4 = .int .i64 x4_1 ∧ Aside0 (spec_StepSize.l0 kq a0 x3_1 x4_1 = some r) ∧ Aside0 (kq ≤ k) ∧ Drawn0 w w')
 case atStart => exact ⟨(7), (0), (by first | rfl | (simp; done) | (simp [*]; done)), (by first | rfl | (simp; done) | (simp [*]; done)), H', ⟨Nat.le_refl _⟩, by repeat (first | exact Drawn0.refl _ | apply Drawn0.step)⟩
 case round =>
  clear H'
  (try clear p2); (try clear c3); obtain ⟨x3_1, x4_1, rfl, rfl, HA, HK1, ⟨m1, rfl⟩⟩ := hrel
  cases gk with
  | zero => exact absurd HA.out (by simp [spec_StepSize.l0])
  | succ k1 =>
   have H := HA.out; clear HA; simp only [spec_StepSize.l0] at H
   by_cases c4 : x4_1 < a0
   case neg =>
    rw [if_neg c4] at H; have c4b0 : decide (x4_1 < a0) = false := decide_eq_false c4; clear c4; obtain rfl := Option.some.inj H
    go_wp2
    go_ret
    exact ⟨by first | rfl | (simp; done) | (simp [*]; done), by repeat (first | exact Drawn0.refl _ | apply Drawn0.step)⟩
   rw [if_pos c4] at H; have c4b0 : decide (x4_1 < a0) = true := decide_eq_true c4; clear c4
   have H' := am_ H
   clear H
   go_wp2
   go_roundg k1
   case measure => have := HK1.out; omega
   case rel => exact ⟨(wrap64 ((wrap64 (Int.tdiv (wrap64 (11 * x3_1)) 10)) + 1)), (wrap64 (x4_1 + 1)), (by first | rfl | (simp; done) | (simp [*]; done)), (by first | rfl | (simp; done) | (simp [*]; done)), H', ⟨by have := HK1.out; omega⟩, by repeat (first | exact Drawn0.refl _ | apply Drawn0.step)⟩
/-! ### spec_l2Clip: function 85 -/
def spec_l2Clip.f (a0 : Int) : Option (Int) := if a0 > 32767 then (some 32767) else (if a0 < (-32767) then (some (-32767)) else (some a0))
set_option maxHeartbeats 8000000 in
set_option maxRecDepth 100000 in
theorem spec_l2Clip.calls (a0 : Int) (r : Int) (w : World) (h : spec_l2Clip.f a0 = some r) :
  Calls Try.prog 85 #[.int .i64 a0] w fun e w' => e = .returned (.int .i64 r) ∧ Drawn0 w w' := by
 have H : (if a0 > 32767 then (some 32767) else (if a0 < (-32767) then (some (-32767)) else (some a0))) = some r := h; clear h
 by_cases c2 : a0 > 32767
 case pos =>
  rw [if_pos c2] at H; have c2b0 : decide (32767 < a0) = true := decide_eq_true c2; clear c2; obtain rfl := Option.some.inj H
  go_enter Try.func85, Try.ntmps85
  go_wp2
  go_ret
  exact ⟨by first | rfl | (simp; done) | (simp [*]; done), by repeat (first | exact Drawn0.refl _ | apply Drawn0.step)⟩
 rw [if_neg c2] at H; have c2b0 : decide (32767 < a0) = false := decide_eq_false c2; clear c2
 by_cases c3 : a0 < (-32767)
 case pos =>
  rw [if_pos c3] at H; have c3b0 : decide (a0 < (-32767)) = true := decide_eq_true c3; clear c3; obtain rfl := Option.some.inj H
  go_enter Try.func85, Try.ntmps85
  go_wp2
  go_ret
  exact ⟨by first | rfl | (simp; done) | (simp [*]; done), by repeat (first | exact Drawn0.refl _ | apply Drawn0.step)⟩
 rw [if_neg c3] at H; have c3b0 : decide (a0 < (-32767)) = false := decide_eq_false c3; clear c3; obtain rfl := Option.some.inj H
 go_enter Try.func85, Try.ntmps85
 go_wp2
 go_ret
 exact ⟨by first | rfl | (simp; done) | (simp [*]; done), by repeat (first | exact Drawn0.refl _ | apply Drawn0.step)⟩

/-! ### spec_l11Next: function 78 -/
mutual
def spec_l11Next.j0 : Nat → Int → Int → Int → Int → Int → Int → Option (Int × Int)
 | 0, _, _, _, _, _, _ => none
 | k + 1, x1, x5, x6, x7, x136000, x136001 => if (Int.tmod x6 4) ≥ 2 then (spec_l11Next.j1 k x1 x5 x6 (wrap64 (x7 + (wrap64 (Int.tdiv x5 2)))) x136000 x136001) else (spec_l11Next.j1 k x1 x5 x6 x7 x136000 x136001)
def spec_l11Next.j1 : Nat → Int → Int → Int → Int → Int → Int → Option (Int × Int)
 | 0, _, _, _, _, _, _ => none
 | k + 1, x1, x5, x6, x7, x136000, x136001 => if (Int.tmod x6 2) = 1 then (spec_l11Next.j2 k x1 x6 (wrap64 (x7 + (wrap64 (Int.tdiv x5 4)))) x136000 x136001) else (spec_l11Next.j2 k x1 x6 x7 x136000 x136001)
def spec_l11Next.j2 : Nat → Int → Int → Int → Int → Int → Option (Int × Int)
 | 0, _, _, _, _, _ => none
 | k + 1, x1, x6, x7, x136000, x136001 => if x1 ≥ 8 then (spec_l11Next.j3 k x6 (wrap64 (-x7)) x136000 x136001) else (spec_l11Next.j3 k x6 x7 x136000 x136001)
def spec_l11Next.j3 : Nat → Int → Int → Int → Int → Option (Int × Int)
 | 0, _, _, _, _ => none
 | k + 1, x6, x7, x136000, x136001 => (some (([(-1), (-1), (-1), (-1), 2, 4, 6, 8] : List Int) : List Int)).bind fun y138 => (if 0 ≤ x6 then (if x6 < (y138.length : Int) then (if (wrap64 (x136001 + (rd y138 x6))) < 0 then ((spec_l2Clip.f (wrap64 (x136000 + x7))).bind fun t142 => (some (t142, 0))) else (if (wrap64 (x136001 + (rd y138 x6))) > 48 then ((spec_l2Clip.f (wrap64 (x136000 + x7))).bind fun t143 => (some (t143, 48))) else ((spec_l2Clip.f (wrap64 (x136000 + x7))).bind fun t144 => (some (t144, wrap64 (x136001 + (rd y138 x6))))))) else (none)) else (none))
end
def spec_l11Next.f (k : Nat) (a0_0 : Int) (a0_1 : Int) (a1 : Int) : Option (Int × Int) := (spec_StepSize.f k a0_1).bind fun t137 => (if (Int.tmod a1 8) ≥ 4 then (spec_l11Next.j0 k a1 t137 (Int.tmod a1 8) (wrap64 ((wrap64 (Int.tdiv t137 8)) + t137)) a0_0 a0_1) else (spec_l11Next.j0 k a1 t137 (Int.tmod a1 8) (wrap64 (Int.tdiv t137 8)) a0_0 a0_1))
theorem spec_l11Next.mono_l : ∀ k, (∀ y0 y1 y2 y3 y4 y5, LeO (spec_l11Next.j0 k y0 y1 y2 y3 y4 y5) (spec_l11Next.j0 (k + 1) y0 y1 y2 y3 y4 y5)) ∧ (∀ y0 y1 y2 y3 y4 y5, LeO (spec_l11Next.j1 k y0 y1 y2 y3 y4 y5) (spec_l11Next.j1 (k + 1) y0 y1 y2 y3 y4 y5)) ∧ (∀ y0 y1 y2 y3 y4, LeO (spec_l11Next.j2 k y0 y1 y2 y3 y4) (spec_l11Next.j2 (k + 1) y0 y1 y2 y3 y4)) ∧ (∀ y0 y1 y2 y3, LeO (spec_l11Next.j3 k y0 y1 y2 y3) (spec_l11Next.j3 (k + 1) y0 y1 y2 y3))
 | 0 => ⟨fun _ _ _ _ _ _ r h => by simp [spec_l11Next.j0] at h, fun _ _ _ _ _ _ r h => by simp [spec_l11Next.j1] at h, fun _ _ _ _ _ r h => by simp [spec_l11Next.j2] at h, fun _ _ _ _ r h => by simp [spec_l11Next.j3] at h⟩
 | k + 1 => by
  obtain ⟨ih0, ih1, ih2, ih3⟩ := spec_l11Next.mono_l k
  refine ⟨?_, ?_, ?_, ?_⟩
  ·intro y0 y1 y2 y3 y4 y5
   unfold spec_l11Next.j0
   repeat' first
   | (with_reducible exact ih0 _ _ _ _ _ _)
   | (with_reducible exact ih1 _ _ _ _ _ _)
   | (with_reducible exact ih2 _ _ _ _ _)
   | (with_reducible exact ih3 _ _ _ _)
   | (with_reducible exact spec_StepSize.mono _ _)
   | (with_reducible exact LeO.refl _)
   | (with_reducible exact LeO.none _)
   | (with_reducible refine LeO.ite ?_ ?_)
   | (with_reducible refine LeO.bind ?_ (fun _ => ?_))
   | exact ih0 _ _ _ _ _ _
   | exact ih1 _ _ _ _ _ _
   | exact ih2 _ _ _ _ _
   | exact ih3 _ _ _ _
   | exact spec_StepSize.mono _ _
   | exact LeO.none _
   | refine LeO.ite ?_ ?_
   | refine LeO.bind ?_ (fun _ => ?_)
  ·intro y0 y1 y2 y3 y4 y5
   unfold spec_l11Next.j1
   repeat' first
   | (with_reducible exact ih0 _ _ _ _ _ _)
   | (with_reducible exact ih1 _ _ _ _ _ _)
   | (with_reducible exact ih2 _ _ _ _ _)
   | (with_reducible exact ih3 _ _ _ _)
   | (with_reducible exact spec_StepSize.mono _ _)
   | (with_reducible exact LeO.refl _)
   | (with_reducible exact LeO.none _)
   | (with_reducible refine LeO.ite ?_ ?_)
   | (with_reducible refine LeO.bind ?_ (fun _ => ?_))
   | exact ih0 _ _ _ _ _ _
   | exact ih1 _ _ _ _ _ _
   | exact ih2 _ _ _ _ _
   | exact ih3 _ _ _ _
   | exact spec_StepSize.mono _ _
   | exact LeO.none _
   | refine LeO.ite ?_ ?_
   | refine LeO.bind ?_ (fun _ => ?_)
  ·intro y0 y1 y2 y3 y4
   unfold spec_l11Next.j2
   repeat' first
   | (with_reducible exact ih0 _ _ _ _ _ _)
   | (with_reducible exact ih1 _ _ _ _ _ _)
   | (with_reducible exact ih2 _ _ _ _ _)
   | (with_reducible exact ih3 _ _ _ _)
   | (with_reducible exact spec_StepSize.mono _ _)
   | (with_reducible exact LeO.refl _)
   | (with_reducible exact LeO.none _)
   | (with_reducible refine LeO.ite ?_ ?_)
   | (with_reducible refine LeO.bind ?_ (fun _ => ?_))
   | exact ih0 _ _ _ _ _ _
   | exact ih1 _ _ _ _ _ _
   | exact ih2 _ _ _ _ _
   | exact ih3 _ _ _ _
   | exact spec_StepSize.mono _ _
   | exact LeO.none _
   | refine LeO.ite ?_ ?_
   | refine LeO.bind ?_ (fun _ => ?_)
  ·intro y0 y1 y2 y3
   unfold spec_l11Next.j3
   repeat' first
   | (with_reducible exact ih0 _ _ _ _ _ _)
   | (with_reducible exact ih1 _ _ _ _ _ _)
   | (with_reducible exact ih2 _ _ _ _ _)
   | (with_reducible exact ih3 _ _ _ _)
   | (with_reducible exact spec_StepSize.mono _ _)
   | (with_reducible exact LeO.refl _)
   | (with_reducible exact LeO.none _)
   | (with_reducible refine LeO.ite ?_ ?_)
   | (with_reducible refine LeO.bind ?_ (fun _ => ?_))
   | exact ih0 _ _ _ _ _ _
   | exact ih1 _ _ _ _ _ _
   | exact ih2 _ _ _ _ _
   | exact ih3 _ _ _ _
   | exact spec_StepSize.mono _ _
   | exact LeO.none _
   | refine LeO.ite ?_ ?_
   | refine LeO.bind ?_ (fun _ => ?_)
theorem spec_l11Next.mono : ∀ a0 a1 a2 k, LeO (spec_l11Next.f k a0 a1 a2) (spec_l11Next.f (k + 1) a0 a1 a2) := by
 intro a0 a1 a2 k
 obtain ⟨ih0, ih1, ih2, ih3⟩ := spec_l11Next.mono_l k
 unfold spec_l11Next.f
 repeat' first
   | (with_reducible exact ih0 _ _ _ _ _ _)
   | (with_reducible exact ih1 _ _ _ _ _ _)
   | (with_reducible exact ih2 _ _ _ _ _)
   | (with_reducible exact ih3 _ _ _ _)
   | (with_reducible exact spec_StepSize.mono _ _)
   | (with_reducible exact LeO.refl _)
   | (with_reducible exact LeO.none _)
   | (with_reducible refine LeO.ite ?_ ?_)
   | (with_reducible refine LeO.bind ?_ (fun _ => ?_))
   | exact ih0 _ _ _ _ _ _
   | exact ih1 _ _ _ _ _ _
   | exact ih2 _ _ _ _ _
   | exact ih3 _ _ _ _
   | exact spec_StepSize.mono _ _
   | exact LeO.none _
   | refine LeO.ite ?_ ?_
   | refine LeO.bind ?_ (fun _ => ?_)
set_option maxHeartbeats 8000000 in
set_option maxRecDepth 100000 in
theorem spec_l11Next.calls (k : Nat) (a0_0 : Int) (a0_1 : Int) (a1 : Int) (r1 : Int) (r2 : Int) (w : World) (h : spec_l11Next.f k a0_0 a0_1 a1 = some (r1, r2)) :
  Calls Try.prog 78 #[.agg #[.int .i64 a0_0, .int .i64 a0_1], .int .i64 a1] w fun e w' => e = .returned (.agg #[.int .i64 r1, .int .i64 r2]) ∧ Below w.heap.size w w' := by
 have hu76 := Try.underlying76; have HB := am_ (Below.refl w.heap.size w)
 have H : ((spec_StepSize.f k a0_1).bind fun t137 => (if (Int.tmod a1 8) ≥ 4 then (spec_l11Next.j0 k a1 t137 (Int.tmod a1 8) (wrap64 ((wrap64 (Int.tdiv t137 8)) + t137)) a0_0 a0_1) else (spec_l11Next.j0 k a1 t137 (Int.tmod a1 8) (wrap64 (Int.tdiv t137 8)) a0_0 a0_1))) = some (r1, r2) := h
 clear h; replace H := Option.bind_eq_some_iff.mp H; obtain ⟨t137, A30, H⟩ := H
 replace H : (if (Int.tmod a1 8) ≥ 4 then (spec_l11Next.j0 k a1 t137 (Int.tmod a1 8) (wrap64 ((wrap64 (Int.tdiv t137 8)) + t137)) a0_0 a0_1) else (spec_l11Next.j0 k a1 t137 (Int.tmod a1 8) (wrap64 (Int.tdiv t137 8)) a0_0 a0_1)) = some (r1, r2) := H
 have A3 := am_ A30; clear A30; have HC4 := am_ H; clear H
 go_enter Try.func78, Try.ntmps78
 go_upto_if 18 with (first | ((with_reducible refine gate_dst (N := 2) rfl ?_); refine box_event ?hg (N := 2) ?hd (cs := #[.int .i64 a0_0, .int .i64 a0_1]) (t := 76) ?hr ?_; (case hd => rfl); (case hg => rfl); (case hr => first | (go_simp; done) | (go_simp; rfl)); intro gb135 hg w5 hbox hb; have n0_ := am_ (below_step belowNow hb); have n1_ := am_ (hbox); have n2_ := am_ ((by rw [hg]; exact (below_size belowNow) : w.heap.size ≤ gb135)); have n3_ := n2_; clear HB; have HB := n0_; have BK135 := n1_; have GW135 := n2_; have GE135 := n3_; clear n0_ n1_ n2_ n3_; clear hb hbox hg) | ((with_reducible refine gate_dst (N := 4) rfl ?_); refine box_event ?hg (N := 4) ?hd (cs := #[.int .i64 0, .int .i64 0]) (t := 76) ?hr ?_; (case hd => rfl); (case hg => rfl); (case hr => first | (go_simp; done) | (go_simp; rfl)); intro gb136 hg w6 hbox hb; have n0_ := am_ (blkStep (g := gb135) hb); have n1_ := am_ (below_step belowNow hb); have n2_ := am_ (hbox); have n3_ := am_ ((by rw [hg]; exact (below_size belowNow) : w.heap.size ≤ gb136)); have n4_ := n3_; have n5_ := am_ ((by rw [hg]; exact Nat.ne_of_lt (blkLt (g := gb135)) : gb135 ≠ gb136)); have n6_ := am_ ((by rw [hg]; exact Nat.ne_of_gt (blkLt (g := gb135)) : gb136 ≠ gb135)); clear BK135; clear HB; have BK135 := n0_; have HB := n1_; have BK136 := n2_; have GW136 := n3_; have GE136 := n4_; have NB135_136 := n5_; have NB136_135 := n6_; clear n0_ n1_ n2_ n3_ n4_ n5_ n6_; clear hb hbox hg; have ⟨hnb7, hnc7⟩ := nn4_ NB135_136.out; have hcz8_0 := cz4_ BK135.out 0 rfl; have hcz8_1 := cz4_ BK135.out 1 rfl; have hfz8_0 := blk_frozen BK135.out 0; have hfz8_1 := blk_frozen BK135.out 1) | (go_at_call 84; (with_reducible refine (spec_StepSize.calls k a0_1 t137 _ A3.out).mono ?_); rintro e w' ⟨rfl, ⟨nd, rfl⟩⟩; (try first | exact ⟨rfl, _, World.drewN_drewN _ _ _⟩ | exact ⟨rfl, _, Eq.trans (World.drewN_drewN _ _ _) (congrArg (World.drewN _) (Nat.add_assoc _ _ _))⟩)))
 repeat (go_quiet (first | ((with_reducible refine gate_dst (N := 2) rfl ?_); refine box_event ?hg (N := 2) ?hd (cs := #[.int .i64 a0_0, .int .i64 a0_1]) (t := 76) ?hr ?_; (case hd => rfl); (case hg => rfl); (case hr => first | (go_simp; done) | (go_simp; rfl)); intro gb135 hg w5 hbox hb; have n0_ := am_ (below_step belowNow hb); have n1_ := am_ (hbox); have n2_ := am_ ((by rw [hg]; exact (below_size belowNow) : w.heap.size ≤ gb135)); have n3_ := n2_; clear HB; have HB := n0_; have BK135 := n1_; have GW135 := n2_; have GE135 := n3_; clear n0_ n1_ n2_ n3_; clear hb hbox hg) | ((with_reducible refine gate_dst (N := 4) rfl ?_); refine box_event ?hg (N := 4) ?hd (cs := #[.int .i64 0, .int .i64 0]) (t := 76) ?hr ?_; (case hd => rfl); (case hg => rfl); (case hr => first | (go_simp; done) | (go_simp; rfl)); intro gb136 hg w6 hbox hb; have n0_ := am_ (blkStep (g := gb135) hb); have n1_ := am_ (below_step belowNow hb); have n2_ := am_ (hbox); have n3_ := am_ ((by rw [hg]; exact (below_size belowNow) : w.heap.size ≤ gb136)); have n4_ := n3_; have n5_ := am_ ((by rw [hg]; exact Nat.ne_of_lt (blkLt (g := gb135)) : gb135 ≠ gb136)); have n6_ := am_ ((by rw [hg]; exact Nat.ne_of_gt (blkLt (g := gb135)) : gb136 ≠ gb135)); clear BK135; clear HB; have BK135 := n0_; have HB := n1_; have BK136 := n2_; have GW136 := n3_; have GE136 := n4_; have NB135_136 := n5_; have NB136_135 := n6_; clear n0_ n1_ n2_ n3_ n4_ n5_ n6_; clear hb hbox hg; have ⟨hnb7, hnc7⟩ := nn4_ NB135_136.out; have hcz8_0 := cz4_ BK135.out 0 rfl; have hcz8_1 := cz4_ BK135.out 1 rfl; have hfz8_0 := blk_frozen BK135.out 0; have hfz8_1 := blk_frozen BK135.out 1) | (go_at_call 84; (with_reducible refine (spec_StepSize.calls k a0_1 t137 _ A3.out).mono ?_); rintro e w' ⟨rfl, ⟨nd, rfl⟩⟩; (try first | exact ⟨rfl, _, World.drewN_drewN _ _ _⟩ | exact ⟨rfl, _, Eq.trans (World.drewN_drewN _ _ _) (congrArg (World.drewN _) (Nat.add_assoc _ _ _))⟩))); go_upto_if 18 with (first | ((with_reducible refine gate_dst (N := 2) rfl ?_); refine box_event ?hg (N := 2) ?hd (cs := #[.int .i64 a0_0, .int .i64 a0_1]) (t := 76) ?hr ?_; (case hd => rfl); (case hg => rfl); (case hr => first | (go_simp; done) | (go_simp; rfl)); intro gb135 hg w5 hbox hb; have n0_ := am_ (below_step belowNow hb); have n1_ := am_ (hbox); have n2_ := am_ ((by rw [hg]; exact (below_size belowNow) : w.heap.size ≤ gb135)); have n3_ := n2_; clear HB; have HB := n0_; have BK135 := n1_; have GW135 := n2_; have GE135 := n3_; clear n0_ n1_ n2_ n3_; clear hb hbox hg) | ((with_reducible refine gate_dst (N := 4) rfl ?_); refine box_event ?hg (N := 4) ?hd (cs := #[.int .i64 0, .int .i64 0]) (t := 76) ?hr ?_; (case hd => rfl); (case hg => rfl); (case hr => first | (go_simp; done) | (go_simp; rfl)); intro gb136 hg w6 hbox hb; have n0_ := am_ (blkStep (g := gb135) hb); have n1_ := am_ (below_step belowNow hb); have n2_ := am_ (hbox); have n3_ := am_ ((by rw [hg]; exact (below_size belowNow) : w.heap.size ≤ gb136)); have n4_ := n3_; have n5_ := am_ ((by rw [hg]; exact Nat.ne_of_lt (blkLt (g := gb135)) : gb135 ≠ gb136)); have n6_ := am_ ((by rw [hg]; exact Nat.ne_of_gt (blkLt (g := gb135)) : gb136 ≠ gb135)); clear BK135; clear HB; have BK135 := n0_; have HB := n1_; have BK136 := n2_; have GW136 := n3_; have GE136 := n4_; have NB135_136 := n5_; have NB136_135 := n6_; clear n0_ n1_ n2_ n3_ n4_ n5_ n6_; clear hb hbox hg; have ⟨hnb7, hnc7⟩ := nn4_ NB135_136.out; have hcz8_0 := cz4_ BK135.out 0 rfl; have hcz8_1 := cz4_ BK135.out 1 rfl; have hfz8_0 := blk_frozen BK135.out 0; have hfz8_1 := blk_frozen BK135.out 1) | (go_at_call 84; (with_reducible refine (spec_StepSize.calls k a0_1 t137 _ A3.out).mono ?_); rintro e w' ⟨rfl, ⟨nd, rfl⟩⟩; (try first | exact ⟨rfl, _, World.drewN_drewN _ _ _⟩ | exact ⟨rfl, _, Eq.trans (World.drewN_drewN _ _ _) (congrArg (World.drewN _) (Nat.add_assoc _ _ _))⟩))))
 (try simp only [Act.put, List.setIfInBounds_toArray, List.set_cons_zero, List.set_cons_succ])
 go_cut [7] (fun v7 wc => ∃ (kq : Nat) (x7_3 : Int), v7 = .int .i64 x7_3 ∧ Aside0 (spec_l11Next.j0 kq a1 t137 (Int.tmod a1 8) x7_3 a0_0 a0_1 = some (r1, r2)) ∧ Aside0 (kq ≤ k) ∧ Aside0 (wc.heap[gb135]? = some (.cells #[.int .i64 a0_0, .int .i64 a0_1] 76 (0, 0))) ∧ Aside0 (wc.heap[gb136]? = some (.cells #[.int .i64 0, .int .i64 0] 76 (0, 0))) ∧ Aside0 (Below w.heap.size w wc))
 case first =>
  have H := HC4.out; clear HC4
  by_cases c9 : (Int.tmod a1 8) ≥ 4
  case neg =>
   rw [if_neg c9] at H; have c9b0 : decide (4 ≤ (Int.tmod a1 8)) = false := decide_eq_false c9; clear c9
   (first | rw [c9b0] | (simp only [i64_w, i32_w]; rw [c9b0]) | (rw [c9b2]; try simp only [Bool.not_false, Bool.not_true]) | skip)
   have H' := am_ H
   clear H
   go_wp2
   repeat (go_quiet (fail); try go_wp2)
   go_meet
   case rel => exact ⟨_, (wrap64 (Int.tdiv t137 8)), (by first | rfl | (simp; done) | (simp [*]; done)), H', ⟨by first | omega | exact Nat.le_refl _⟩, ⟨pB_ BK135.out⟩, ⟨pB_ BK136.out⟩, ⟨belowNow⟩⟩
  rw [if_pos c9] at H; have c9b0 : decide (4 ≤ (Int.tmod a1 8)) = true := decide_eq_true c9; clear c9
  (first | rw [c9b0] | (simp only [i64_w, i32_w]; rw [c9b0]) | (rw [c9b2]; try simp only [Bool.not_false, Bool.not_true]) | skip)
  have H' := am_ H
  clear H
  go_wp2
  repeat (go_quiet (fail); try go_wp2)
  go_meet
  case rel => exact ⟨_, (wrap64 ((wrap64 (Int.tdiv t137 8)) + t137)), (by first | rfl | (simp; done) | (simp [*]; done)), H', ⟨by first | omega | exact Nat.le_refl _⟩, ⟨pB_ BK135.out⟩, ⟨pB_ BK136.out⟩, ⟨belowNow⟩⟩
 case rest =>
  clear HC4; (try clear p2); (try clear p6); (try clear c7); (try clear c9); (try clear c9b0); (try clear hcz8_0 hcz8_1 hfz8_0 hfz8_1); obtain ⟨kq, x7_3, rfl, HA, HJ3, BK135, BK136, HB⟩ := hcut
  cases kq with
  | zero => exact absurd HA.out (by simp [spec_l11Next.j0])
  | succ kj3 =>
   have H := HA.out; clear HA; simp only [spec_l11Next.j0] at H; have HC10 := am_ H; clear H
   go_upto_if 24 with (fail)
   repeat (go_quiet (fail); go_upto_if 24 with (fail))
   go_cut [7] (fun v7 wc => ∃ (kq : Nat) (x7_9 : Int), v7 = .int .i64 x7_9 ∧ Aside0 (spec_l11Next.j1 kq a1 t137 (Int.tmod a1 8) x7_9 a0_0 a0_1 = some (r1, r2)) ∧ Aside0 (kq ≤ kj3) ∧ Aside0 (wc.heap[gb135]? = some (.cells #[.int .i64 a0_0, .int .i64 a0_1] 76 (0, 0))) ∧ Aside0 (wc.heap[gb136]? = some (.cells #[.int .i64 0, .int .i64 0] 76 (0, 0))) ∧ Aside0 (Below w.heap.size w wc))
   case first =>
    have H := HC10.out; clear HC10
    by_cases c11 : (Int.tmod (Int.tmod a1 8) 4) ≥ 2
    case neg =>
     rw [if_neg c11] at H; have c11b0 : decide (2 ≤ (Int.tmod (Int.tmod a1 8) 4)) = false := decide_eq_false c11
     (try rw [Int.tmod_tmod_of_dvd _ (show (4 : Int) ∣ 8 by decide)] at c11b0)
     clear c11
     (first | rw [c11b0] | (simp only [i64_w, i32_w]; rw [c11b0]) | (rw [c11b2]; try simp only [Bool.not_false, Bool.not_true]) | skip)
     have H' := am_ H
     clear H
     go_wp2
     repeat (go_quiet (fail); try go_wp2)
     go_meet
     case rel => exact ⟨_, (x7_3), (by first | rfl | (simp; done) | (simp [*]; done)), H', ⟨by have := HJ3.out; first | omega | exact Nat.le_refl _⟩, ⟨pB_ BK135.out⟩, ⟨pB_ BK136.out⟩, ⟨belowNow⟩⟩
    rw [if_pos c11] at H; have c11b0 : decide (2 ≤ (Int.tmod (Int.tmod a1 8) 4)) = true := decide_eq_true c11
    (try rw [Int.tmod_tmod_of_dvd _ (show (4 : Int) ∣ 8 by decide)] at c11b0)
    clear c11
    (first | rw [c11b0] | (simp only [i64_w, i32_w]; rw [c11b0]) | (rw [c11b2]; try simp only [Bool.not_false, Bool.not_true]) | skip)
    have H' := am_ H
    clear H
    go_wp2
    repeat (go_quiet (fail); try go_wp2)
    go_meet
    case rel => exact ⟨_, (wrap64 (x7_3 + (wrap64 (Int.tdiv t137 2)))), (by first | rfl | (simp; done) | (simp [*]; done)), H', ⟨by have := HJ3.out; first | omega | exact Nat.le_refl _⟩, ⟨pB_ BK135.out⟩, ⟨pB_ BK136.out⟩, ⟨belowNow⟩⟩
   case rest =>
    clear HC10; (try clear c1); (try clear p2); (try clear p6); (try clear c7); (try clear c9); (try clear c9b0); (try clear c11); (try clear c11b0); (try clear hcz8_0 hcz8_1 hfz8_0 hfz8_1); (try clear p2); (try clear p6); obtain ⟨kq, x7_9, rfl, HA, HJ9, BK135, BK136, HB⟩ := hcut
    cases kq with
    | zero => exact absurd HA.out (by simp [spec_l11Next.j1])
    | succ kj9 =>
     have H := HA.out; clear HA; simp only [spec_l11Next.j1] at H; have HC12 := am_ H; clear H
     go_upto_if 31 with (fail)
     repeat (go_quiet (fail); go_upto_if 31 with (fail))
     go_cut [7] (fun v7 wc => ∃ (kq : Nat) (x7_11 : Int), v7 = .int .i64 x7_11 ∧ Aside0 (spec_l11Next.j2 kq a1 (Int.tmod a1 8) x7_11 a0_0 a0_1 = some (r1, r2)) ∧ Aside0 (kq ≤ kj9) ∧ Aside0 (wc.heap[gb135]? = some (.cells #[.int .i64 a0_0, .int .i64 a0_1] 76 (0, 0))) ∧ Aside0 (wc.heap[gb136]? = some (.cells #[.int .i64 0, .int .i64 0] 76 (0, 0))) ∧ Aside0 (Below w.heap.size w wc))
     case first =>
      have H := HC12.out; clear HC12
      by_cases c13 : (Int.tmod (Int.tmod a1 8) 2) = 1
      case neg =>
       rw [if_neg c13] at H; have c13b0 : ((Int.tmod (Int.tmod a1 8) 2) == 1) = false := beq_eq_false_iff_ne.mpr c13
       (try rw [Int.tmod_tmod_of_dvd _ (show (2 : Int) ∣ 8 by decide)] at c13b0)
       have c13b1 : ((Int.tmod (Int.tmod a1 8) 2) != 1) = true := bne_iff_ne.mpr c13
       (try rw [Int.tmod_tmod_of_dvd _ (show (2 : Int) ∣ 8 by decide)] at c13b1)
       (first | rw [c13b0] | (simp only [i64_w, i32_w]; rw [c13b0]) | (rw [c13b2]; try simp only [Bool.not_false, Bool.not_true]) | skip)
       have H' := am_ H
       clear H
       go_wp2
       repeat (go_quiet (fail); try go_wp2)
       go_meet
       case rel => exact ⟨_, (x7_9), (by first | rfl | (simp; done) | (simp [*]; done)), H', ⟨by have := HJ3.out; have := HJ9.out; first | omega | exact Nat.le_refl _⟩, ⟨pB_ BK135.out⟩, ⟨pB_ BK136.out⟩, ⟨belowNow⟩⟩
      rw [if_pos c13] at H; have c13b0 : ((Int.tmod (Int.tmod a1 8) 2) == 1) = true := beq_iff_eq.mpr c13
      (try rw [Int.tmod_tmod_of_dvd _ (show (2 : Int) ∣ 8 by decide)] at c13b0)
      have c13b1 : ((Int.tmod (Int.tmod a1 8) 2) != 1) = false := bne_eq_false_iff_eq.mpr c13
      (try rw [Int.tmod_tmod_of_dvd _ (show (2 : Int) ∣ 8 by decide)] at c13b1)
      clear c13
      (first | rw [c13b0] | (simp only [i64_w, i32_w]; rw [c13b0]) | (rw [c13b2]; try simp only [Bool.not_false, Bool.not_true]) | skip)
      have H' := am_ H
      clear H
      go_wp2
      repeat (go_quiet (fail); try go_wp2)
      go_meet
      case rel => exact ⟨_, (wrap64 (x7_9 + (wrap64 (Int.tdiv t137 4)))), (by first | rfl | (simp; done) | (simp [*]; done)), H', ⟨by have := HJ3.out; have := HJ9.out; first | omega | exact Nat.le_refl _⟩, ⟨pB_ BK135.out⟩, ⟨pB_ BK136.out⟩, ⟨belowNow⟩⟩
     case rest =>
      clear HC12; (try clear c1); (try clear p2); (try clear p6); (try clear c7); (try clear c9); (try clear c9b0); (try clear c11); (try clear c11b0); (try clear c13); (try clear c13b0); (try clear c13b1); (try clear hcz8_0 hcz8_1 hfz8_0 hfz8_1); (try clear p2); (try clear p6); obtain ⟨kq, x7_11, rfl, HA, HJ11, BK135, BK136, HB⟩ := hcut
      cases kq with
      | zero => exact absurd HA.out (by simp [spec_l11Next.j2])
      | succ kj11 =>
       have H := HA.out; clear HA; simp only [spec_l11Next.j2] at H; have HC14 := am_ H; clear H
       go_upto_if 37 with (fail)
       repeat (go_quiet (fail); go_upto_if 37 with (fail))
       go_cut [7] (fun v7 wc => ∃ (kq : Nat) (x7_13 : Int), v7 = .int .i64 x7_13 ∧ Aside0 (spec_l11Next.j3 kq (Int.tmod a1 8) x7_13 a0_0 a0_1 = some (r1, r2)) ∧ Aside0 (kq ≤ kj11) ∧ Aside0 (wc.heap[gb135]? = some (.cells #[.int .i64 a0_0, .int .i64 a0_1] 76 (0, 0))) ∧ Aside0 (wc.heap[gb136]? = some (.cells #[.int .i64 0, .int .i64 0] 76 (0, 0))) ∧ Aside0 (Below w.heap.size w wc))
       case first =>
        have H := HC14.out; clear HC14
        by_cases c15 : a1 ≥ 8
        case neg =>
         rw [if_neg c15] at H; have c15b0 : decide (8 ≤ a1) = false := decide_eq_false c15; clear c15
         (first | rw [c15b0] | (simp only [i64_w, i32_w]; rw [c15b0]) | (rw [c15b2]; try simp only [Bool.not_false, Bool.not_true]) | skip)
         have H' := am_ H
         clear H
         go_wp2
         repeat (go_quiet (fail); try go_wp2)
         go_meet
         case rel => exact ⟨_, (x7_11), (by first | rfl | (simp; done) | (simp [*]; done)), H', ⟨by have := HJ3.out; have := HJ9.out; have := HJ11.out; first | omega | exact Nat.le_refl _⟩, ⟨pB_ BK135.out⟩, ⟨pB_ BK136.out⟩, ⟨belowNow⟩⟩
        rw [if_pos c15] at H; have c15b0 : decide (8 ≤ a1) = true := decide_eq_true c15; clear c15
        (first | rw [c15b0] | (simp only [i64_w, i32_w]; rw [c15b0]) | (rw [c15b2]; try simp only [Bool.not_false, Bool.not_true]) | skip)
        have H' := am_ H
        clear H
        go_wp2
        repeat (go_quiet (fail); try go_wp2)
        go_meet
        case rel => exact ⟨_, (wrap64 (-x7_11)), (by first | rfl | (simp; done) | (simp [*]; done)), H', ⟨by have := HJ3.out; have := HJ9.out; have := HJ11.out; first | omega | exact Nat.le_refl _⟩, ⟨pB_ BK135.out⟩, ⟨pB_ BK136.out⟩, ⟨belowNow⟩⟩
       case rest =>
        clear HC14; (try clear c1); (try clear p2); (try clear p6); (try clear c7); (try clear c9); (try clear c9b0); (try clear c11); (try clear c11b0); (try clear c13); (try clear c13b0); (try clear c13b1); (try clear c15); (try clear c15b0); (try clear hcz8_0 hcz8_1 hfz8_0 hfz8_1); (try clear p2); (try clear p6); obtain ⟨kq, x7_13, rfl, HA, HJ13, BK135, BK136, HB⟩ := hcut
        cases kq with
        | zero => exact absurd HA.out (by simp [spec_l11Next.j3])
        | succ kj13 =>
         have H := HA.out; clear HA; simp only [spec_l11Next.j3] at H; obtain ⟨y138, hy138⟩ : ∃ y_ : List Int, y_ = (([(-1), (-1), (-1), (-1), 2, 4, 6, 8] : List Int)) := ⟨_, rfl⟩
         replace H : (if 0 ≤ (Int.tmod a1 8) then (if (Int.tmod a1 8) < (y138.length : Int) then (if (wrap64 (a0_1 + (rd y138 (Int.tmod a1 8)))) < 0 then ((spec_l2Clip.f (wrap64 (a0_0 + x7_13))).bind fun t142 => (some (t142, 0))) else (if (wrap64 (a0_1 + (rd y138 (Int.tmod a1 8)))) > 48 then ((spec_l2Clip.f (wrap64 (a0_0 + x7_13))).bind fun t143 => (some (t143, 48))) else ((spec_l2Clip.f (wrap64 (a0_0 + x7_13))).bind fun t144 => (some (t144, wrap64 (a0_1 + (rd y138 (Int.tmod a1 8)))))))) else (none)) else (none)) = some (r1, r2) := by first | (rw [hy138]; with_reducible exact H) | (have H2_ := (Option.bind_some _ _).symm.trans H; rw [hy138]; with_reducible exact H2_) | (have H2_ := (Option.bind_some _ _).symm.trans H; with_reducible exact H2_) | with_reducible exact H | (rw [hy138]; exact H) | exact H
         have Ny138 := am_ hy138; clear hy138; obtain ⟨ji16, hji16⟩ : ∃ j_ : Int, (Int.tmod a1 8) = j_ := ⟨_, rfl⟩
         replace H : (if 0 ≤ (ji16) then (if (ji16) < (y138.length : Int) then (if (wrap64 (a0_1 + (rd y138 (ji16)))) < 0 then ((spec_l2Clip.f (wrap64 (a0_0 + x7_13))).bind fun t142 => (some (t142, 0))) else (if (wrap64 (a0_1 + (rd y138 (ji16)))) > 48 then ((spec_l2Clip.f (wrap64 (a0_0 + x7_13))).bind fun t143 => (some (t143, 48))) else ((spec_l2Clip.f (wrap64 (a0_0 + x7_13))).bind fun t144 => (some (t144, wrap64 (a0_1 + (rd y138 (ji16)))))))) else (none)) else (none)) = some (r1, r2) := by first | (rw [hji16] at H; exact H) | (simp only [hji16] at H ⊢; exact H)
         by_cases c17 : 0 ≤ (ji16)
         case neg =>
          rw [if_neg c17] at H
          exact absurd H (by simp)

         rw [if_pos c17] at H; have c17b0 : decide (0 ≤ (ji16)) = true := decide_eq_true c17; clear c17
         by_cases c18 : (ji16) < (y138.length : Int)
         case neg =>
          rw [if_neg c18] at H
          exact absurd H (by simp)
         rw [if_pos c18] at H; have c18b0 : decide ((ji16) < (y138.length : Int)) = true := decide_eq_true c18; clear c18
         by_cases c19 : (wrap64 (a0_1 + (rd y138 (ji16)))) < 0
         case pos =>
          rw [if_pos c19] at H; have c19b0 : decide ((wrap64 (a0_1 + (rd y138 (ji16)))) < 0) = true := decide_eq_true c19; clear c19; replace H := Option.bind_eq_some_iff.mp H; obtain ⟨t142, A200, H⟩ := H
          replace H : (some (t142, 0)) = some (r1, r2) := H
          have A20 := am_ A200; clear A200; simp only [Option.some.injEq, Prod.mk.injEq] at H; obtain ⟨rfl, rfl⟩ := H
          go_wp2_with (first | ((with_reducible refine gate_dst (N := 40) rfl ?_); refine Kd.R_lit (Kd.int .i64) _ 3 ?hg (N := 40) ?hd (xs := ([(-1), (-1), (-1), (-1), 2, 4, 6, 8] : List Int)) (inner := [.int .i64 (-1), .int .i64 (-1), .int .i64 (-1), .int .i64 (-1), .int .i64 2, .int .i64 4, .int .i64 6, .int .i64 8]) (ok := fun _ => True) (okp := fun _ => True) ?hr ?hp (fun _ hk => hk) trivial (Below.refl _ _) (Nat.le_refl _) (by simp) ?_; (case hd => rfl); (case hg => rfl); (case hr => first | (go_simp; done) | (go_simp; rfl)); (case hp => exact (Reps.one (show Kd.M (Kd.int .i64) _ _ _ (-1) [.int .i64 (-1)] from rfl) (Reps.one (show Kd.M (Kd.int .i64) _ _ _ (-1) [.int .i64 (-1)] from rfl) (Reps.one (show Kd.M (Kd.int .i64) _ _ _ (-1) [.int .i64 (-1)] from rfl) (Reps.one (show Kd.M (Kd.int .i64) _ _ _ (-1) [.int .i64 (-1)] from rfl) (Reps.one (show Kd.M (Kd.int .i64) _ _ _ 2 [.int .i64 2] from rfl) (Reps.one (show Kd.M (Kd.int .i64) _ _ _ 4 [.int .i64 4] from rfl) (Reps.one (show Kd.M (Kd.int .i64) _ _ _ 6 [.int .i64 6] from rfl) (Reps.one (show Kd.M (Kd.int .i64) _ _ _ 8 [.int .i64 8] from rfl) (Reps.none _ _)))))))))); intro v139 w21 ho22 hb hg_ hnew_; clear hg_ hnew_; (first | rw [← Ny138.out] at ho22 | (simp only [Int.reduceToNat] at ho22; rw [← Ny138.out] at ho22)); have HO140 := am_ (Kd.R_lower ho22 (below_size belowNow)); replace BK135 := am_ (blkStep (g := gb135) hb); replace BK136 := am_ (blkStep (g := gb136) hb); replace HB := am_ (below_step belowNow hb); clear hb ho22; have ⟨hnb23, hnc23⟩ := nn4_ NB135_136.out; have hcz24_0 := cz4_ BK135.out 0 rfl; have hcz24_1 := cz4_ BK135.out 1 rfl; have hfz24_0 := blk_frozen BK135.out 0; have hfz24_1 := blk_frozen BK135.out 1; obtain ⟨Ao25, co25, eo25⟩ := Kd.R_slice HO140.out; subst eo25; have p141 : 0 ≤ ((ji16) : Int) := of_decide_eq_true (by first | (with_reducible assumption) | assumption); have q141 : (ji16) < (y138.length : Int) := of_decide_eq_true (by first | (with_reducible assumption) | assumption); obtain ⟨ad141, e141, hx141_0⟩ := Kd.at_int (Kd.R_reads' HO140.out).2.2 (ji16) p141 q141; cases e141; replace p141 := eq_true p141; replace q141 := eq_true q141) | (go_at_call 85; (with_reducible refine (spec_l2Clip.calls (wrap64 (a0_0 + x7_13)) t142 _ A20.out).mono ?_); rintro e w' ⟨rfl, ⟨nd, rfl⟩⟩; (try first | exact ⟨rfl, _, World.drewN_drewN _ _ _⟩ | exact ⟨rfl, _, Eq.trans (World.drewN_drewN _ _ _) (congrArg (World.drewN _) (Nat.add_assoc _ _ _))⟩); have hcz26_0 := cz4_ BK136.out 0 rfl; have hcz26_1 := cz4_ BK136.out 1 rfl; have hfz26_0 := blk_frozen BK136.out 0; have hfz26_1 := blk_frozen BK136.out 1) | ((with_reducible refine wp_region_quiet_lit ?qm ?qb ?_); (case qm => kernel_rfl); (case qb => kernel_rfl)) | ((with_reducible refine wpQuiet_step ?_); intro K hK; go_simp; first | (refine hK _ ?_; clear hK K) | (apply Exists.intro; refine ⟨fun _ => ?_, hK _ ?_⟩; rotate_left; clear hK K; rotate_left)) | ((with_reducible refine wpQuiet_nil ?_); intro _ hw'; obtain ⟨nq, hw''⟩ := hw'; subst hw''))
          all_goals try (exfalso; (try have z0 := of_decide_eq_true c19b0); (try have y0 := of_decide_eq_false c19b0); omega)
          refine bodyPost_ret (results_cell_row rfl _ _ gb136 76 #[.int .i64 t142, .int .i64 0] (0, 0) _ rfl (by (with_reducible repeat (first | refine blk_drewN ?_ _ | refine blk_drew ?_ | refine blk_alloc ?_ _)); refine blk_put (cs := #[.int .i64 t142, .int .i64 0]) ?_ 1 _ rfl; (with_reducible repeat (first | refine blk_drewN ?_ _ | refine blk_drew ?_ | refine blk_alloc ?_ _)); refine blk_put (cs := #[.int .i64 0, .int .i64 0]) ?_ 0 _ rfl; (with_reducible repeat (first | refine blk_drewN ?_ _ | refine blk_drew ?_ | refine blk_alloc ?_ _)); exact BK136.out) Try.underlying76 rfl (by kernel_rfl)) rfl ?_
          exact ⟨by first | rfl | (simp [errW_none, errW_some] <;> rfl) | (simp only [← hji16]; first | rfl | (simp [errW_none, errW_some] <;> rfl)) | (simp [*, errW_none, errW_some] <;> rfl), belowNow⟩
         rw [if_neg c19] at H; have c19b0 : decide ((wrap64 (a0_1 + (rd y138 (ji16)))) < 0) = false := decide_eq_false c19; clear c19
         by_cases c27 : (wrap64 (a0_1 + (rd y138 (ji16)))) > 48
         case pos =>
          rw [if_pos c27] at H; have c27b0 : decide (48 < (wrap64 (a0_1 + (rd y138 (ji16))))) = true := decide_eq_true c27; clear c27; replace H := Option.bind_eq_some_iff.mp H; obtain ⟨t143, A280, H⟩ := H
          replace H : (some (t143, 48)) = some (r1, r2) := H
          have A28 := am_ A280; clear A280; simp only [Option.some.injEq, Prod.mk.injEq] at H; obtain ⟨rfl, rfl⟩ := H
          go_wp2_with (first | ((with_reducible refine gate_dst (N := 40) rfl ?_); refine Kd.R_lit (Kd.int .i64) _ 3 ?hg (N := 40) ?hd (xs := ([(-1), (-1), (-1), (-1), 2, 4, 6, 8] : List Int)) (inner := [.int .i64 (-1), .int .i64 (-1), .int .i64 (-1), .int .i64 (-1), .int .i64 2, .int .i64 4, .int .i64 6, .int .i64 8]) (ok := fun _ => True) (okp := fun _ => True) ?hr ?hp (fun _ hk => hk) trivial (Below.refl _ _) (Nat.le_refl _) (by simp) ?_; (case hd => rfl); (case hg => rfl); (case hr => first | (go_simp; done) | (go_simp; rfl)); (case hp => exact (Reps.one (show Kd.M (Kd.int .i64) _ _ _ (-1) [.int .i64 (-1)] from rfl) (Reps.one (show Kd.M (Kd.int .i64) _ _ _ (-1) [.int .i64 (-1)] from rfl) (Reps.one (show Kd.M (Kd.int .i64) _ _ _ (-1) [.int .i64 (-1)] from rfl) (Reps.one (show Kd.M (Kd.int .i64) _ _ _ (-1) [.int .i64 (-1)] from rfl) (Reps.one (show Kd.M (Kd.int .i64) _ _ _ 2 [.int .i64 2] from rfl) (Reps.one (show Kd.M (Kd.int .i64) _ _ _ 4 [.int .i64 4] from rfl) (Reps.one (show Kd.M (Kd.int .i64) _ _ _ 6 [.int .i64 6] from rfl) (Reps.one (show Kd.M (Kd.int .i64) _ _ _ 8 [.int .i64 8] from rfl) (Reps.none _ _)))))))))); intro v139 w29 ho30 hb hg_ hnew_; clear hg_ hnew_; (first | rw [← Ny138.out] at ho30 | (simp only [Int.reduceToNat] at ho30; rw [← Ny138.out] at ho30)); have HO140 := am_ (Kd.R_lower ho30 (below_size belowNow)); replace BK135 := am_ (blkStep (g := gb135) hb); replace BK136 := am_ (blkStep (g := gb136) hb); replace HB := am_ (below_step belowNow hb); clear hb ho30; have ⟨hnb31, hnc31⟩ := nn4_ NB135_136.out; have hcz32_0 := cz4_ BK135.out 0 rfl; have hcz32_1 := cz4_ BK135.out 1 rfl; have hfz32_0 := blk_frozen BK135.out 0; have hfz32_1 := blk_frozen BK135.out 1; obtain ⟨Ao33, co33, eo33⟩ := Kd.R_slice HO140.out; subst eo33; have p141 : 0 ≤ ((ji16) : Int) := of_decide_eq_true (by first | (with_reducible assumption) | assumption); have q141 : (ji16) < (y138.length : Int) := of_decide_eq_true (by first | (with_reducible assumption) | assumption); obtain ⟨ad141, e141, hx141_0⟩ := Kd.at_int (Kd.R_reads' HO140.out).2.2 (ji16) p141 q141; cases e141; replace p141 := eq_true p141; replace q141 := eq_true q141) | (go_at_call 85; (with_reducible refine (spec_l2Clip.calls (wrap64 (a0_0 + x7_13)) t143 _ A28.out).mono ?_); rintro e w' ⟨rfl, ⟨nd, rfl⟩⟩; (try first | exact ⟨rfl, _, World.drewN_drewN _ _ _⟩ | exact ⟨rfl, _, Eq.trans (World.drewN_drewN _ _ _) (congrArg (World.drewN _) (Nat.add_assoc _ _ _))⟩); have hcz34_0 := cz4_ BK136.out 0 rfl; have hcz34_1 := cz4_ BK136.out 1 rfl; have hfz34_0 := blk_frozen BK136.out 0; have hfz34_1 := blk_frozen BK136.out 1) | ((with_reducible refine wp_region_quiet_lit ?qm ?qb ?_); (case qm => kernel_rfl); (case qb => kernel_rfl)) | ((with_reducible refine wpQuiet_step ?_); intro K hK; go_simp; first | (refine hK _ ?_; clear hK K) | (apply Exists.intro; refine ⟨fun _ => ?_, hK _ ?_⟩; rotate_left; clear hK K; rotate_left)) | ((with_reducible refine wpQuiet_nil ?_); intro _ hw'; obtain ⟨nq, hw''⟩ := hw'; subst hw''))
          all_goals try (exfalso; (try have z0 := of_decide_eq_true c19b0); (try have y0 := of_decide_eq_false c19b0); (try have z1 := of_decide_eq_true c27b0); (try have y1 := of_decide_eq_false c27b0); omega)
          refine bodyPost_ret (results_cell_row rfl _ _ gb136 76 #[.int .i64 t143, .int .i64 48] (0, 0) _ rfl (by (with_reducible repeat (first | refine blk_drewN ?_ _ | refine blk_drew ?_ | refine blk_alloc ?_ _)); refine blk_put (cs := #[.int .i64 t143, .int .i64 0]) ?_ 1 _ rfl; (with_reducible repeat (first | refine blk_drewN ?_ _ | refine blk_drew ?_ | refine blk_alloc ?_ _)); refine blk_put (cs := #[.int .i64 0, .int .i64 0]) ?_ 0 _ rfl; (with_reducible repeat (first | refine blk_drewN ?_ _ | refine blk_drew ?_ | refine blk_alloc ?_ _)); exact BK136.out) Try.underlying76 rfl (by kernel_rfl)) rfl ?_
          exact ⟨by first | rfl | (simp [errW_none, errW_some] <;> rfl) | (simp only [← hji16]; first | rfl | (simp [errW_none, errW_some] <;> rfl)) | (simp [*, errW_none, errW_some] <;> rfl), belowNow⟩
         rw [if_neg c27] at H; have c27b0 : decide (48 < (wrap64 (a0_1 + (rd y138 (ji16))))) = false := decide_eq_false c27; clear c27; replace H := Option.bind_eq_some_iff.mp H; obtain ⟨t144, A350, H⟩ := H
         replace H : (some (t144, wrap64 (a0_1 + (rd y138 (ji16))))) = some (r1, r2) := H
         have A35 := am_ A350; clear A350; simp only [Option.some.injEq, Prod.mk.injEq] at H; obtain ⟨rfl, rfl⟩ := H
         go_wp2_with (first | ((with_reducible refine gate_dst (N := 40) rfl ?_); refine Kd.R_lit (Kd.int .i64) _ 3 ?hg (N := 40) ?hd (xs := ([(-1), (-1), (-1), (-1), 2, 4, 6, 8] : List Int)) (inner := [.int .i64 (-1), .int .i64 (-1), .int .i64 (-1), .int .i64 (-1), .int .i64 2, .int .i64 4, .int .i64 6, .int .i64 8]) (ok := fun _ => True) (okp := fun _ => True) ?hr ?hp (fun _ hk => hk) trivial (Below.refl _ _) (Nat.le_refl _) (by simp) ?_; (case hd => rfl); (case hg => rfl); (case hr => first | (go_simp; done) | (go_simp; rfl)); (case hp => exact (Reps.one (show Kd.M (Kd.int .i64) _ _ _ (-1) [.int .i64 (-1)] from rfl) (Reps.one (show Kd.M (Kd.int .i64) _ _ _ (-1) [.int .i64 (-1)] from rfl) (Reps.one (show Kd.M (Kd.int .i64) _ _ _ (-1) [.int .i64 (-1)] from rfl) (Reps.one (show Kd.M (Kd.int .i64) _ _ _ (-1) [.int .i64 (-1)] from rfl) (Reps.one (show Kd.M (Kd.int .i64) _ _ _ 2 [.int .i64 2] from rfl) (Reps.one (show Kd.M (Kd.int .i64) _ _ _ 4 [.int .i64 4] from rfl) (Reps.one (show Kd.M (Kd.int .i64) _ _ _ 6 [.int .i64 6] from rfl) (Reps.one (show Kd.M (Kd.int .i64) _ _ _ 8 [.int .i64 8] from rfl) (Reps.none _ _)))))))))); intro v139 w36 ho37 hb hg_ hnew_; clear hg_ hnew_; (first | rw [← Ny138.out] at ho37 | (simp only [Int.reduceToNat] at ho37; rw [← Ny138.out] at ho37)); have HO140 := am_ (Kd.R_lower ho37 (below_size belowNow)); replace BK135 := am_ (blkStep (g := gb135) hb); replace BK136 := am_ (blkStep (g := gb136) hb); replace HB := am_ (below_step belowNow hb); clear hb ho37; have ⟨hnb38, hnc38⟩ := nn4_ NB135_136.out; have hcz39_0 := cz4_ BK135.out 0 rfl; have hcz39_1 := cz4_ BK135.out 1 rfl; have hfz39_0 := blk_frozen BK135.out 0; have hfz39_1 := blk_frozen BK135.out 1; obtain ⟨Ao40, co40, eo40⟩ := Kd.R_slice HO140.out; subst eo40; have p141 : 0 ≤ ((ji16) : Int) := of_decide_eq_true (by first | (with_reducible assumption) | assumption); have q141 : (ji16) < (y138.length : Int) := of_decide_eq_true (by first | (with_reducible assumption) | assumption); obtain ⟨ad141, e141, hx141_0⟩ := Kd.at_int (Kd.R_reads' HO140.out).2.2 (ji16) p141 q141; cases e141; replace p141 := eq_true p141; replace q141 := eq_true q141) | (go_at_call 85; (with_reducible refine (spec_l2Clip.calls (wrap64 (a0_0 + x7_13)) t144 _ A35.out).mono ?_); rintro e w' ⟨rfl, ⟨nd, rfl⟩⟩; (try first | exact ⟨rfl, _, World.drewN_drewN _ _ _⟩ | exact ⟨rfl, _, Eq.trans (World.drewN_drewN _ _ _) (congrArg (World.drewN _) (Nat.add_assoc _ _ _))⟩); have hcz41_0 := cz4_ BK136.out 0 rfl; have hcz41_1 := cz4_ BK136.out 1 rfl; have hfz41_0 := blk_frozen BK136.out 0; have hfz41_1 := blk_frozen BK136.out 1) | ((with_reducible refine wp_region_quiet_lit ?qm ?qb ?_); (case qm => kernel_rfl); (case qb => kernel_rfl)) | ((with_reducible refine wpQuiet_step ?_); intro K hK; go_simp; first | (refine hK _ ?_; clear hK K) | (apply Exists.intro; refine ⟨fun _ => ?_, hK _ ?_⟩; rotate_left; clear hK K; rotate_left)) | ((with_reducible refine wpQuiet_nil ?_); intro _ hw'; obtain ⟨nq, hw''⟩ := hw'; subst hw''))
         all_goals try (exfalso; (try have z0 := of_decide_eq_true c19b0); (try have y0 := of_decide_eq_false c19b0); (try have z1 := of_decide_eq_true c27b0); (try have y1 := of_decide_eq_false c27b0); omega)
         refine bodyPost_ret (results_cell_row rfl _ _ gb136 76 #[.int .i64 t144, .int .i64 (wrap64 (a0_1 + (rd y138 (ji16))))] (0, 0) _ rfl (by (with_reducible repeat (first | refine blk_drewN ?_ _ | refine blk_drew ?_ | refine blk_alloc ?_ _)); refine blk_put (cs := #[.int .i64 t144, .int .i64 0]) ?_ 1 _ rfl; (with_reducible repeat (first | refine blk_drewN ?_ _ | refine blk_drew ?_ | refine blk_alloc ?_ _)); refine blk_put (cs := #[.int .i64 0, .int .i64 0]) ?_ 0 _ rfl; (with_reducible repeat (first | refine blk_drewN ?_ _ | refine blk_drew ?_ | refine blk_alloc ?_ _)); exact BK136.out) Try.underlying76 rfl (by kernel_rfl)) rfl ?_
         exact ⟨by first | rfl | (simp [errW_none, errW_some] <;> rfl) | (simp only [← hji16]; first | rfl | (simp [errW_none, errW_some] <;> rfl)) | (simp [*, errW_none, errW_some] <;> rfl), belowNow⟩
end Go.Proofs.Ytbgdmbjipladoaa.PFnExactPlay
