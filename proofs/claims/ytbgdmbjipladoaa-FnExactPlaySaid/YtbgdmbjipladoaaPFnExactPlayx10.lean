-- laid by a program of this session (wip/lay/lay.py); Lean checks it
import Derived.Test.YtbgdmbjipladoaaVFnExactPlayShort
import Derived.Test.YtbgdmbjipladoaaPFnExactPlayx0
import Derived.Test.YtbgdmbjipladoaaPFnExactPlayx7
import Derived.Test.YtbgdmbjipladoaaPFnExactPlayx9
namespace Go.Proofs.Ytbgdmbjipladoaa.PFnExactPlay
-- squashed
open Go.RowKit Go.Proofs.YtbgdmbjipladoaaW.PrintWords Go.Proofs.YtbgdmbjipladoaaW.PrintLast Go.Proofs.YtbgdmbjipladoaaW.PrintMore Go.Proofs.Ytbgdmbjipladoaa.Short
attribute [local go_sem] max2_int min2_int max_two min_two max_three min_three max_four min_four   -- for this text's walks alone
set_option linter.unusedVariables false
set_option linter.unusedSimpArgs false

theorem cz10_ {w : World} {g : Nat} {t : TypeId} {cs : Array Value} {v : Value} (h : w.heap[g]? = some (.cells cs t (0, 0))) (i : Nat) (e : cs[i]? = some v) : w.cell? ⟨g, i, none⟩ = some v := (blk_cell h i).trans e
theorem nn10_ {a b : Nat} (h : a ≠ b) : a ≠ b ∧ b ≠ a := ⟨h, h.symm⟩
/-! ### impl_Expand: function 70 -/
mutual
def impl_Expand.j0 : Nat → List Int → Bool → Int → Int → Option (List Int × Int × Int × Bool)
 | 0, _, _, _, _ => none
 | k + 1, x1, x17, x226000, x226001 => if x17 = true then (some (([] : List Int), 0, 0, false)) else (impl_Expand.l0 k ([] : List Int) x1 (x1.length : Int) 0 x226000 x226001)
def impl_Expand.l0 : Nat → List Int → List Int → Int → Int → Int → Int → Option (List Int × Int × Int × Bool)
 | 0, _, _, _, _, _, _ => none
 | k + 1, x7, x19, x20, x21, x226000, x226001 => if x21 < x20 then (if 0 ≤ x21 then (if x21 < (x19.length : Int) then ((impl_in.f (rd x19 x21) 0 15).bind fun t229 => (if t229 = true then ((impl_Coder_expand.f k x226000 x226001 (rd x19 x21)).bind fun bt230 => (if x7.length < 17592186044416 then (impl_Expand.l0 k (x7 ++ [bt230.1]) x19 x20 (wrap64 (x21 + 1)) bt230.1 bt230.2) else (none))) else (some (([] : List Int), 0, 0, false)))) else (none)) else (none)) else (some (x7, x226000, x226001, true))
end
def impl_Expand.f (k : Nat) (a0_0 : Int) (a0_1 : Int) (l1 : List Int) : Option (List Int × Int × Int × Bool) := (impl_coderOk.f a0_0 a0_1).bind fun t227 => (if t227 = true then (impl_Expand.j0 k l1 (decide ((l1.length : Int) > 300)) a0_0 a0_1) else (impl_Expand.j0 k l1 true a0_0 a0_1))
theorem impl_Expand.mono_l : ∀ k, (∀ y0 y1 y2 y3, LeO (impl_Expand.j0 k y0 y1 y2 y3) (impl_Expand.j0 (k + 1) y0 y1 y2 y3)) ∧ (∀ y0 y1 y2 y3 y4 y5, LeO (impl_Expand.l0 k y0 y1 y2 y3 y4 y5) (impl_Expand.l0 (k + 1) y0 y1 y2 y3 y4 y5))
 | 0 => ⟨fun _ _ _ _ r h => by simp [impl_Expand.j0] at h, fun _ _ _ _ _ _ r h => by simp [impl_Expand.l0] at h⟩
 | k + 1 => by
  obtain ⟨ih0, ih1⟩ := impl_Expand.mono_l k
  refine ⟨?_, ?_⟩
  ·intro y0 y1 y2 y3
   unfold impl_Expand.j0
   repeat' first
   | (with_reducible exact ih0 _ _ _ _)
   | (with_reducible exact ih1 _ _ _ _ _ _)
   | (with_reducible exact impl_Coder_expand.mono _ _ _ _)
   | (with_reducible exact LeO.refl _)
   | (with_reducible exact LeO.none _)
   | (with_reducible refine LeO.ite ?_ ?_)
   | (with_reducible refine LeO.bind ?_ (fun _ => ?_))
   | exact ih0 _ _ _ _
   | exact ih1 _ _ _ _ _ _
   | exact impl_Coder_expand.mono _ _ _ _
   | exact LeO.none _
   | refine LeO.ite ?_ ?_
   | refine LeO.bind ?_ (fun _ => ?_)
  ·intro y0 y1 y2 y3 y4 y5
   unfold impl_Expand.l0
   repeat' first
   | (with_reducible exact ih0 _ _ _ _)
   | (with_reducible exact ih1 _ _ _ _ _ _)
   | (with_reducible exact impl_Coder_expand.mono _ _ _ _)
   | (with_reducible exact LeO.refl _)
   | (with_reducible exact LeO.none _)
   | (with_reducible refine LeO.ite ?_ ?_)
   | (with_reducible refine LeO.bind ?_ (fun _ => ?_))
   | exact ih0 _ _ _ _
   | exact ih1 _ _ _ _ _ _
   | exact impl_Coder_expand.mono _ _ _ _
   | exact LeO.none _
   | refine LeO.ite ?_ ?_
   | refine LeO.bind ?_ (fun _ => ?_)
theorem impl_Expand.mono : ∀ a0 a1 a2 k, LeO (impl_Expand.f k a0 a1 a2) (impl_Expand.f (k + 1) a0 a1 a2) := by
 intro a0 a1 a2 k
 obtain ⟨ih0, ih1⟩ := impl_Expand.mono_l k
 unfold impl_Expand.f
 repeat' first
   | (with_reducible exact ih0 _ _ _ _)
   | (with_reducible exact ih1 _ _ _ _ _ _)
   | (with_reducible exact impl_Coder_expand.mono _ _ _ _)
   | (with_reducible exact LeO.refl _)
   | (with_reducible exact LeO.none _)
   | (with_reducible refine LeO.ite ?_ ?_)
   | (with_reducible refine LeO.bind ?_ (fun _ => ?_))
   | exact ih0 _ _ _ _
   | exact ih1 _ _ _ _ _ _
   | exact impl_Coder_expand.mono _ _ _ _
   | exact LeO.none _
   | refine LeO.ite ?_ ?_
   | refine LeO.bind ?_ (fun _ => ?_)
set_option maxHeartbeats 8000000 in
set_option maxRecDepth 100000 in
theorem impl_Expand.calls (k : Nat) (a0_0 : Int) (a0_1 : Int) (A1 : Option Addr) (c1 : Nat) (l1 : List Int) (r1 : List Int) (r2 : Int) (r3 : Int) (r4 : Bool) (w : World) (hr1 : Kd.C (Kd.int .i64) w A1 l1.length l1) (hc1 : l1.length ≤ c1) (h : impl_Expand.f k a0_0 a0_1 l1 = some (r1, r2, r3, r4)) :
  Calls Try.prog 70 #[.agg #[.int .i64 a0_0, .int .i64 a0_1], .slice A1 l1.length c1] w fun e w' => ∃ v0_ : Value, e = .returned (.tuple #[v0_, .agg #[.int .i64 r2, .int .i64 r3], .bool r4]) ∧ Kd.R (Kd.int .i64) 3 w' w.heap.size (fun _ => True) v0_ r1 ∧ Below w.heap.size w w' := by
 have hu76 := Try.underlying76; have HR1 := am_ hr1; have HC1 := am_ hc1; clear hr1 hc1; have HB := am_ (Below.refl w.heap.size w)
 have H : ((impl_coderOk.f a0_0 a0_1).bind fun t227 => (if t227 = true then (impl_Expand.j0 k l1 (decide ((l1.length : Int) > 300)) a0_0 a0_1) else (impl_Expand.j0 k l1 true a0_0 a0_1))) = some (r1, r2, r3, r4) := h
 clear h; have HC3 := am_ H; clear H
 go_enter Try.func70, Try.ntmps70
 go_upto_region 1 with (first | ((with_reducible refine gate_dst (N := 2) rfl ?_); (try (refine gate_guard (by rfl) ?_; dsimp only)); refine box_event ?hg (N := 2) ?hd (cs := #[.int .i64 a0_0, .int .i64 a0_1]) (t := 76) ?hr ?_; (case hd => rfl); (case hg => rfl); (case hr => first | (go_simp; done) | (go_simp; rfl)); intro gb225 hg w4 hbox hb; have n0_ := am_ (below_step belowNow hb); have n1_ := am_ (hbox); have n2_ := am_ ((by rw [hg]; exact (below_size belowNow) : w.heap.size ≤ gb225)); have n3_ := n2_; clear HB; have HB := n0_; have BK225 := n1_; have GW225 := n2_; have GE225 := n3_; clear n0_ n1_ n2_ n3_; clear hb hbox hg) | ((with_reducible refine gate_dst (N := 5) rfl ?_); (try (refine gate_guard (by rfl) ?_; dsimp only)); refine box_event ?hg (N := 5) ?hd (cs := #[.int .i64 0, .int .i64 0]) (t := 76) ?hr ?_; (case hd => rfl); (case hg => rfl); (case hr => first | (go_simp; done) | (go_simp; rfl)); intro gb226 hg w5 hbox hb; have n0_ := am_ (blkStep (g := gb225) hb); have n1_ := am_ (below_step belowNow hb); have n2_ := am_ (hbox); have n3_ := am_ ((by rw [hg]; exact (below_size belowNow) : w.heap.size ≤ gb226)); have n4_ := n3_; have n5_ := am_ ((by rw [hg]; exact Nat.ne_of_lt (blkLt (g := gb225)) : gb225 ≠ gb226)); have n6_ := am_ ((by rw [hg]; exact Nat.ne_of_gt (blkLt (g := gb225)) : gb226 ≠ gb225)); clear BK225; clear HB; have BK225 := n0_; have HB := n1_; have BK226 := n2_; have GW226 := n3_; have GE226 := n4_; have NB225_226 := n5_; have NB226_225 := n6_; clear n0_ n1_ n2_ n3_ n4_ n5_ n6_; clear hb hbox hg))
 (try simp only [Act.put, List.setIfInBounds_toArray, List.set_cons_zero, List.set_cons_succ])
 go_cut [17] (fun v17 wc => ∃ (kq : Nat) (x17_2 : Bool), v17 = .bool x17_2 ∧ Aside0 (impl_Expand.j0 kq l1 x17_2 a0_0 a0_1 = some (r1, r2, r3, r4)) ∧ Aside0 (kq ≤ k) ∧ Aside0 (wc.heap[gb225]? = some (.cells #[.int .i64 a0_0, .int .i64 a0_1] 76 (0, 0))) ∧ Aside0 (wc.heap[gb226]? = some (.cells #[.int .i64 0, .int .i64 0] 76 (0, 0))) ∧ Aside0 (Below w.heap.size w wc))
 case first =>
  have H := HC3.out; clear HC3; replace H := Option.bind_eq_some_iff.mp H; obtain ⟨t227, A60, H⟩ := H
  replace H : (if t227 = true then (impl_Expand.j0 k l1 (decide ((l1.length : Int) > 300)) a0_0 a0_1) else (impl_Expand.j0 k l1 true a0_0 a0_1)) = some (r1, r2, r3, r4) := H
  have A6 := am_ A60; clear A60
  by_cases c7 : t227 = true
  case pos =>
   subst c7
   have H1 : (impl_Expand.j0 k l1 (decide ((l1.length : Int) > 300)) a0_0 a0_1) = some (r1, r2, r3, r4) := by rw [if_pos rfl] at H; exact H
   clear H; have H := H1; clear H1
   have H' := am_ H
   clear H; have ⟨hnb8, hnc8⟩ := nn10_ NB225_226.out; have hcz9_0 := cz10_ BK225.out 0 rfl; have hcz9_1 := cz10_ BK225.out 1 rfl; have hfz9_0 := blk_frozen BK225.out 0; have hfz9_1 := blk_frozen BK225.out 1
   go_wp2_with (first | ((with_reducible refine gate_callee (f := 79) rfl ?_); refine goesL_ (some 11) rfl rfl Try.func79 (by kernel_rfl) rfl #[.agg #[.int .i64 a0_0, .int .i64 a0_1]] rfl (by (try simp only [List.map_toArray, List.map_cons, List.map_nil]); first | done | rfl | (simp only [List.length_drop, List.length_take]; rfl)) ?_; (with_reducible refine (impl_coderOk.calls a0_0 a0_1 true _ A6.out).mono ?_); rintro e w10 ⟨rfl, hb⟩; refine ⟨_, rfl, ?_⟩; replace BK225 := am_ (blkStep (g := gb225) hb); replace BK226 := am_ (blkStep (g := gb226) hb); replace HB := am_ (below_step belowNow hb); (try clear hb); (try clear hb2); (try clear hk); (try clear hi)))
   go_meet
   case rel => exact ⟨_, (decide ((l1.length : Int) > 300)), (by first | rfl | (simp; done) | (simp [*]; done)), H', ⟨by first | omega | exact Nat.le_refl _⟩, ⟨pB_ BK225.out⟩, ⟨pB_ BK226.out⟩, ⟨belowNow⟩⟩
  replace c7 := Bool.eq_false_iff.mpr c7; subst c7
  have H1 : (impl_Expand.j0 k l1 true a0_0 a0_1) = some (r1, r2, r3, r4) := by rw [if_neg (show ¬ (false = true) by decide)] at H; exact H
  clear H; have H := H1; clear H1
  have H' := am_ H
  clear H; have ⟨hnb11, hnc11⟩ := nn10_ NB225_226.out; have hcz12_0 := cz10_ BK225.out 0 rfl; have hcz12_1 := cz10_ BK225.out 1 rfl; have hfz12_0 := blk_frozen BK225.out 0; have hfz12_1 := blk_frozen BK225.out 1
  go_wp2_with (first | ((with_reducible refine gate_callee (f := 79) rfl ?_); refine goesL_ (some 11) rfl rfl Try.func79 (by kernel_rfl) rfl #[.agg #[.int .i64 a0_0, .int .i64 a0_1]] rfl (by (try simp only [List.map_toArray, List.map_cons, List.map_nil]); first | done | rfl | (simp only [List.length_drop, List.length_take]; rfl)) ?_; (with_reducible refine (impl_coderOk.calls a0_0 a0_1 false _ A6.out).mono ?_); rintro e w13 ⟨rfl, hb⟩; refine ⟨_, rfl, ?_⟩; replace BK225 := am_ (blkStep (g := gb225) hb); replace BK226 := am_ (blkStep (g := gb226) hb); replace HB := am_ (below_step belowNow hb); (try clear hb); (try clear hb2); (try clear hk); (try clear hi)))
  go_meet
  case rel => exact ⟨_, (true), (by first | rfl | (simp; done) | (simp [*]; done)), H', ⟨by first | omega | exact Nat.le_refl _⟩, ⟨pB_ BK225.out⟩, ⟨pB_ BK226.out⟩, ⟨belowNow⟩⟩
 case rest =>
  clear HC3; (try clear c1); (try clear p2); (try clear c7); (try clear c8); (try clear c11); (try clear hcz12_0 hcz12_1); (try clear hcz9_0 hcz9_1); (try clear hfz12_0 hfz12_1); (try clear hfz9_0 hfz9_1); obtain ⟨kq, x17_2, rfl, HA, HJ2, BK225, BK226, HB⟩ := hcut
  cases kq with
  | zero => exact absurd HA.out (by simp [impl_Expand.j0])
  | succ kj2 =>
   have H := HA.out; clear HA; simp only [impl_Expand.j0] at H
   by_cases c14 : x17_2 = true
   case pos =>
    subst c14
    have H1 : (some (([] : List Int), 0, 0, false)) = some (r1, r2, r3, r4) := by rw [if_pos rfl] at H; exact H
    clear H; have H := H1; clear H1; simp only [Option.some.injEq, Prod.mk.injEq] at H; obtain ⟨rfl, rfl, rfl, rfl⟩ := H; have ⟨hnb15, hnc15⟩ := nn10_ NB226_225.out; have hcz16_0 := cz10_ BK226.out 0 rfl; have hcz16_1 := cz10_ BK226.out 1 rfl; have hfz16_0 := blk_frozen BK226.out 0; have hfz16_1 := blk_frozen BK226.out 1
    go_wp2
    refine bodyPost_ret (results_list (rs := [.tmp 4, .cell 5 76, .tmp 6]) rfl (by simp) (.tmp (.cell gb226 76 #[.int .i64 0, .int .i64 0] (0, 0) _ rfl (by (with_reducible repeat (first | refine blk_drewN ?_ _ | refine blk_drew ?_ | refine blk_alloc ?_ _)); refine Far.put2_ #[.int .i64 0, .int .i64 0] rfl ?_; (with_reducible repeat (first | refine blk_drewN ?_ _ | refine blk_drew ?_ | refine blk_alloc ?_ _)); exact BK226.out) Try.underlying76 rfl (by kernel_rfl) (.tmp .nil)))) rfl ?_
    exact ⟨_, by first | rfl | (simp [errW_none, errW_some] <;> rfl) | (simp [*, errW_none, errW_some] <;> rfl), by first | exact Kd.R_nil _ _ _ _ _ | exact Kd.N_nil _ _ _ _ _ | exact Kd.V_nil _ _ _ _ _ | exact Kd.Q_nil _ _ _ _ _ | exact Kd.S_nil _ _ _ _ _, belowNow⟩
   replace c14 := Bool.eq_false_iff.mpr c14; subst c14
   have H1 : (impl_Expand.l0 kj2 ([] : List Int) l1 (l1.length : Int) 0 a0_0 a0_1) = some (r1, r2, r3, r4) := by rw [if_neg (show ¬ (false = true) by decide)] at H; exact H
   clear H; have H := H1; clear H1
   have H' := am_ H
   clear H
   go_wp2
   go_loopg [7, 21] kj2 (fun kq v7 v21 w' => ∃ (x7_2 : List Int) (x21_2 : Int) (x226000_2 : Int) (x226001_2 : Int) (x227000_2 : Int) (x227001_2 : Int), v21 = .int .i64 x21_2 ∧ Aside0 (impl_Expand.l0 kq x7_2 l1 (l1.length : Int) x21_2 x226000_2 x226001_2 = some (r1, r2, r3, r4)) ∧ Aside0 (kq ≤ kj2) ∧ Aside0 (Kd.R (Kd.int .i64) 3 w' w.heap.size (fun _ => True) v7 x7_2) ∧ Aside0 (w'.heap[gb225]? = some (.cells #[.int .i64 x226000_2, .int .i64 x226001_2] 76 (0, 0))) ∧ Aside0 (w'.heap[gb226]? = some (.cells #[.int .i64 x227000_2, .int .i64 x227001_2] 76 (0, 0))) ∧ Aside0 (Below w.heap.size w w'))
   case atStart => exact ⟨(([] : List Int)), (0), (a0_0), (a0_1), (0), (0), (by first | rfl | (simp; done) | (simp [*]; done)), H', ⟨Nat.le_refl _⟩, ⟨by first | exact Kd.R_nil _ _ _ _ _ | exact Kd.N_nil _ _ _ _ _ | exact Kd.V_nil _ _ _ _ _ | exact Kd.Q_nil _ _ _ _ _ | exact Kd.S_nil _ _ _ _ _⟩, ⟨pB_ BK225.out⟩, ⟨pB_ BK226.out⟩, ⟨belowNow⟩⟩
   case round =>
    clear H'
    (try clear c1); (try clear p2); (try clear c7); (try clear c8); (try clear c11); (try clear c14); (try clear c15); (try clear hcz12_0 hcz12_1); (try clear hcz16_0 hcz16_1); (try clear hcz9_0 hcz9_1); (try clear hfz12_0 hfz12_1); (try clear hfz16_0 hfz16_1); (try clear hfz9_0 hfz9_1); (try clear p2); obtain ⟨x7_2, x21_2, x226000_2, x226001_2, x227000_2, x227001_2, rfl, HA, HK2, HO_7, BK225, BK226, HB⟩ := hrel
    cases gk with
    | zero => exact absurd HA.out (by simp [impl_Expand.l0])
    | succ k2 =>
     have H := HA.out; clear HA; simp only [impl_Expand.l0] at H
     by_cases c17 : x21_2 < (l1.length : Int)
     case neg =>
      rw [if_neg c17] at H; have c17b0 : decide (x21_2 < (l1.length : Int)) = false := decide_eq_false c17; clear c17; simp only [Option.some.injEq, Prod.mk.injEq] at H; obtain ⟨rfl, rfl, rfl, rfl⟩ := H
      try go_wp2
      have n0_ := am_ (Kd.R_drew HO_7.out); have n1_ := am_ (blk_drew BK225.out); have n2_ := am_ (blk_drew BK226.out); have n3_ := am_ (below_drew1 HB.out); clear HO_7 BK225 BK226 HB; have HO_7 := n0_; have BK225 := n1_; have BK226 := n2_; have HB := n3_; clear n0_ n1_ n2_ n3_
      refine start_ (n := 5) (S := fun w' => w'.cell? ⟨gb225, 0, none⟩ = some (.int .i64 x226000_2) ∧ w'.cell? ⟨gb225, 1, none⟩ = some (.int .i64 x226001_2)) (ds := []) #[false, false, false, false, false] (by kernel_rfl) rfl rfl ⟨(blk_cell BK225.out 0).trans rfl, (blk_cell BK225.out 1).trans rfl⟩ (fun hHeld => ?_)
      generalize wr.drew = w31 at HO_7 BK225 BK226 HB hHeld ⊢
      refine pure_ (i := 0) (N := some 38) (v := ?_) (a' := ?_) #[true, false, false, false, false] rfl rfl (by kernel_rfl) (fun _ _ _ h => h) (Or.inl ⟨by rfl, ?_⟩) ?_ ?_
      rotate_left
      ·intro w'
       go_simp
       with_reducible rfl
      rotate_left
      ·simp only [Act.put, List.setIfInBounds_toArray, List.set_cons_zero, List.set_cons_succ, i64_w, i32_w]
       rfl
      refine pure_ (i := 2) (N := some 4) (v := ?_) (a' := ?_) #[true, false, true, false, false] rfl rfl (by kernel_rfl) (fun _ _ _ h => h) (Or.inl ⟨by rfl, ?_⟩) ?_ ?_
      rotate_left
      ·intro w'
       go_simp
       with_reducible rfl
      rotate_left
      ·simp only [Act.put, List.setIfInBounds_toArray, List.set_cons_zero, List.set_cons_succ, i64_w, i32_w]
       rfl
      refine take_ (i := 1) (N := some 39) (v := ?_) (a' := ?_) #[true, true, true, false, false] rfl rfl (by kernel_rfl) (fun _ _ _ h => h) (Or.inl ⟨by rfl, ?_⟩) hHeld ?_ ?_
      rotate_left
      ·rintro w' ⟨s0, s1⟩
       go_simp
       with_reducible rfl
      rotate_left
      ·simp only [Act.put, List.setIfInBounds_toArray, List.set_cons_zero, List.set_cons_succ, i64_w, i32_w]
       rfl
      refine one_ (i := 3) (N := none) #[true, true, true, true, false] rfl rfl (by kernel_rfl) (by decide) (fun K hK => ?_)
      have hs32 : w31.cell? ⟨gb226, 0, none⟩ = some (.int .i64 x227000_2) := (blk_cell BK226.out 0).trans rfl; have hfs32 := blk_frozen BK226.out 0; have hns32_0 := NB225_226.out; have hms32_0 := NB226_225.out; have hs33 : w31.cell? ⟨gb226, 1, none⟩ = some (.int .i64 x227001_2) := (blk_cell BK226.out 1).trans rfl; have hfs33 := blk_frozen BK226.out 1; have hns33_0 := NB225_226.out; have hms33_0 := NB226_225.out
      refine skip_ (w1 := ?_) (by rfl) rfl ?_ ?_
      rotate_left
      ·go_simp
       rfl
      refine hK.out _ _ ⟨(Far.far2_ NB225_226.out hHeld.1), (Far.far2_ NB225_226.out hHeld.2)⟩ (fun hHeld => ?_)
      clear hK K
      refine pure_ (i := 4) (N := some 6) (v := ?_) (a' := ?_) #[true, true, true, true, true] rfl rfl (by kernel_rfl) (fun _ _ _ h => h) (Or.inl ⟨by rfl, ?_⟩) ?_ ?_
      rotate_left
      ·intro w'
       go_simp
       with_reducible rfl
      rotate_left
      ·simp only [Act.put, List.setIfInBounds_toArray, List.set_cons_zero, List.set_cons_succ, i64_w, i32_w]
       rfl
      refine done_ (by kernel_rfl) ?_
      try go_wp2
      refine bodyPost_ret (results_list (rs := [.tmp 4, .cell 5 76, .tmp 6]) rfl (by simp) (.tmp (.cell gb226 76 #[.int .i64 x226000_2, .int .i64 x226001_2] (0, 0) _ rfl (by (with_reducible repeat (first | refine blk_drewN ?_ _ | refine blk_drew ?_ | refine blk_alloc ?_ _)); refine Far.put2_ #[.int .i64 x227000_2, .int .i64 x227001_2] rfl ?_; (with_reducible repeat (first | refine blk_drewN ?_ _ | refine blk_drew ?_ | refine blk_alloc ?_ _)); exact BK226.out) Try.underlying76 rfl (by kernel_rfl) (.tmp .nil)))) rfl ?_
      exact ⟨_, by first | rfl | (simp [errW_none, errW_some] <;> rfl) | (simp [*, errW_none, errW_some] <;> rfl), by (with_reducible repeat (first | apply Kd.R_alloc | apply Kd.R_drewN | apply Kd.R_drew)); exact Kd.R_mono (Far.rfar2_ (fun _ hk => hk.2) (Kd.R_types HO_7.out BK226.out (by decide))) (fun _ hk => trivial), belowNow⟩

     rw [if_pos c17] at H; have c17b0 : decide (x21_2 < (l1.length : Int)) = true := decide_eq_true c17; clear c17
     by_cases c18 : 0 ≤ x21_2
     case neg =>
      rw [if_neg c18] at H
      exact absurd H (by simp)
     rw [if_pos c18] at H; have c18b0 : decide (0 ≤ x21_2) = true := decide_eq_true c18; clear c18
     by_cases c19 : x21_2 < (l1.length : Int)
     case neg =>
      rw [if_neg c19] at H
      exact absurd H (by simp)
     rw [if_pos c19] at H; have c19b0 : decide (x21_2 < (l1.length : Int)) = true := decide_eq_true c19; clear c19; replace H := Option.bind_eq_some_iff.mp H; obtain ⟨t229, A200, H⟩ := H
     replace H : (if t229 = true then ((impl_Coder_expand.f k2 x226000_2 x226001_2 (rd l1 x21_2)).bind fun bt230 => (if x7_2.length < 17592186044416 then (impl_Expand.l0 k2 (x7_2 ++ [bt230.1]) l1 (l1.length : Int) (wrap64 (x21_2 + 1)) bt230.1 bt230.2) else (none))) else (some (([] : List Int), 0, 0, false))) = some (r1, r2, r3, r4) := H
     have A20 := am_ A200; clear A200
     by_cases c21 : t229 = true
     case neg =>
      replace c21 := Bool.eq_false_iff.mpr c21; subst c21
      have H1 : (some (([] : List Int), 0, 0, false)) = some (r1, r2, r3, r4) := by rw [if_neg (show ¬ (false = true) by decide)] at H; exact H
      clear H; have H := H1; clear H1; simp only [Option.some.injEq, Prod.mk.injEq] at H; obtain ⟨rfl, rfl, rfl, rfl⟩ := H
      have p228 : 0 ≤ (x21_2 : Int) := of_decide_eq_true (by first | (with_reducible assumption) | assumption)
      have q228 : x21_2 < (l1.length : Int) := of_decide_eq_true (by first | (with_reducible assumption) | assumption)
      obtain ⟨ad228, e228, hx228_0⟩ := Kd.at_int HR1.out x21_2 p228 q228
      cases e228
      replace hx228_0 := (HB.out.cell (World.block_lt_of_cell? w _ hx228_0)).trans hx228_0; replace p228 := eq_true p228; replace q228 := eq_true q228
      go_wp2_with (first | ((with_reducible refine gate_callee (f := 44) rfl ?_); refine goesL_ (some 26) rfl rfl Try.func44 (by kernel_rfl) rfl #[.int .i64 (rd l1 x21_2), .int .i64 0, .int .i64 15] rfl (by (try simp only [List.map_toArray, List.map_cons, List.map_nil]); first | done | rfl | (simp only [List.length_drop, List.length_take]; rfl)) ?_; (with_reducible refine (impl_in.calls (rd l1 x21_2) 0 15 false _ A20.out).mono ?_); rintro e w' ⟨rfl, ⟨nd, rfl⟩⟩; refine ⟨_, rfl, ?_⟩; (try (rw [drewN_self wr]; generalize hq_ : World.drewN wr _ = wr; have n0_ : Aside0 (Kd.R (Kd.int .i64) 3 wr w.heap.size (fun _ => True) u7 x7_2) := ⟨by rw [← hq_]; exact (pR_ HO_7.out)⟩; have n1_ : Aside0 (wr.heap[gb225]? = some (.cells #[.int .i64 x226000_2, .int .i64 x226001_2] 76 (0, 0))) := ⟨by rw [← hq_]; exact blkNow⟩; have n2_ : Aside0 (wr.heap[gb226]? = some (.cells #[.int .i64 x227000_2, .int .i64 x227001_2] 76 (0, 0))) := ⟨by rw [← hq_]; exact blkNow⟩; have n3_ : Aside0 (Below w.heap.size w wr) := ⟨by rw [← hq_]; exact belowNow⟩; clear HO_7 BK225 BK226 HB hq_; have HO_7 := n0_; have BK225 := n1_; have BK226 := n2_; have HB := n3_; clear n0_ n1_ n2_ n3_)); have ⟨hnb29, hnc29⟩ := nn10_ NB226_225.out; have hcz30_0 := cz10_ BK226.out 0 rfl; have hcz30_1 := cz10_ BK226.out 1 rfl; have hfz30_0 := blk_frozen BK226.out 0; have hfz30_1 := blk_frozen BK226.out 1))
      refine bodyPost_ret (results_list (rs := [.tmp 4, .cell 5 76, .tmp 6]) rfl (by simp) (.tmp (.cell gb226 76 #[.int .i64 0, .int .i64 0] (0, 0) _ rfl (by (with_reducible repeat (first | refine blk_drewN ?_ _ | refine blk_drew ?_ | refine blk_alloc ?_ _)); refine Far.put2_ #[.int .i64 x227000_2, .int .i64 x227001_2] rfl ?_; (with_reducible repeat (first | refine blk_drewN ?_ _ | refine blk_drew ?_ | refine blk_alloc ?_ _)); exact BK226.out) Try.underlying76 rfl (by kernel_rfl) (.tmp .nil)))) rfl ?_
      exact ⟨_, by first | rfl | (simp [errW_none, errW_some] <;> rfl) | (simp [*, errW_none, errW_some] <;> rfl), by first | exact Kd.R_nil _ _ _ _ _ | exact Kd.N_nil _ _ _ _ _ | exact Kd.V_nil _ _ _ _ _ | exact Kd.Q_nil _ _ _ _ _ | exact Kd.S_nil _ _ _ _ _, belowNow⟩
     subst c21
     have H1 : ((impl_Coder_expand.f k2 x226000_2 x226001_2 (rd l1 x21_2)).bind fun bt230 => (if x7_2.length < 17592186044416 then (impl_Expand.l0 k2 (x7_2 ++ [bt230.1]) l1 (l1.length : Int) (wrap64 (x21_2 + 1)) bt230.1 bt230.2) else (none))) = some (r1, r2, r3, r4) := by rw [if_pos rfl] at H; exact H
     clear H; have H := H1; clear H1; replace H := Option.bind_eq_some_iff.mp H; obtain ⟨⟨t230, t231⟩, A220, H⟩ := H
     replace H : (if x7_2.length < 17592186044416 then (impl_Expand.l0 k2 (x7_2 ++ [t230]) l1 (l1.length : Int) (wrap64 (x21_2 + 1)) t230 t231) else (none)) = some (r1, r2, r3, r4) := H
     have A22 := am_ A220; clear A220
     by_cases c23 : x7_2.length < 17592186044416
     case neg =>
      rw [if_neg c23] at H
      exact absurd H (by simp)
     rw [if_pos c23] at H; have LMc23 := am_ c23; clear c23; obtain ⟨y232, hy232⟩ : ∃ y_ : List Int, y_ = (x7_2 ++ [t230]) := ⟨_, rfl⟩
     replace H : (impl_Expand.l0 k2 y232 l1 (l1.length : Int) (wrap64 (x21_2 + 1)) t230 t231) = some (r1, r2, r3, r4) := by first | (rw [hy232]; with_reducible exact H) | (have H2_ := (Option.bind_some _ _).symm.trans H; rw [hy232]; with_reducible exact H2_) | (have H2_ := (Option.bind_some _ _).symm.trans H; with_reducible exact H2_) | with_reducible exact H | (rw [hy232]; exact H) | exact H
     have Ny232 := am_ hy232; clear hy232
     have H' := am_ H
     clear H
     have p228 : 0 ≤ (x21_2 : Int) := of_decide_eq_true (by first | (with_reducible assumption) | assumption)
     have q228 : x21_2 < (l1.length : Int) := of_decide_eq_true (by first | (with_reducible assumption) | assumption)
     obtain ⟨ad228, e228, hx228_0⟩ := Kd.at_int HR1.out x21_2 p228 q228
     cases e228
     replace hx228_0 := (HB.out.cell (World.block_lt_of_cell? w _ hx228_0)).trans hx228_0; replace p228 := eq_true p228; replace q228 := eq_true q228
     go_wp2_with (first | ((with_reducible refine gate_callee (f := 44) rfl ?_); refine goesL_ (some 26) rfl rfl Try.func44 (by kernel_rfl) rfl #[.int .i64 (rd l1 x21_2), .int .i64 0, .int .i64 15] rfl (by (try simp only [List.map_toArray, List.map_cons, List.map_nil]); first | done | rfl | (simp only [List.length_drop, List.length_take]; rfl)) ?_; (with_reducible refine (impl_in.calls (rd l1 x21_2) 0 15 true _ A20.out).mono ?_); rintro e w' ⟨rfl, ⟨nd, rfl⟩⟩; refine ⟨_, rfl, ?_⟩; (try (rw [drewN_self wr]; generalize hq_ : World.drewN wr _ = wr; have n0_ : Aside0 (Kd.R (Kd.int .i64) 3 wr w.heap.size (fun _ => True) u7 x7_2) := ⟨by rw [← hq_]; exact (pR_ HO_7.out)⟩; have n1_ : Aside0 (wr.heap[gb225]? = some (.cells #[.int .i64 x226000_2, .int .i64 x226001_2] 76 (0, 0))) := ⟨by rw [← hq_]; exact blkNow⟩; have n2_ : Aside0 (wr.heap[gb226]? = some (.cells #[.int .i64 x227000_2, .int .i64 x227001_2] 76 (0, 0))) := ⟨by rw [← hq_]; exact blkNow⟩; have n3_ : Aside0 (Below w.heap.size w wr) := ⟨by rw [← hq_]; exact belowNow⟩; clear HO_7 BK225 BK226 HB hq_; have HO_7 := n0_; have BK225 := n1_; have BK226 := n2_; have HB := n3_; clear n0_ n1_ n2_ n3_)); have ⟨hnb24, hnc24⟩ := nn10_ NB225_226.out; have hcz25_0 := cz10_ BK225.out 0 rfl; have hcz25_1 := cz10_ BK225.out 1 rfl; have hfz25_0 := blk_frozen BK225.out 0; have hfz25_1 := blk_frozen BK225.out 1) | ((with_reducible refine gate_callee (f := 80) rfl ?_); refine goesL_ (some 31) rfl rfl Try.func80 (by kernel_rfl) rfl #[.agg #[.int .i64 x226000_2, .int .i64 x226001_2], .int .i64 (rd l1 x21_2)] rfl (by (try simp only [List.map_toArray, List.map_cons, List.map_nil]); first | done | rfl | (simp only [List.length_drop, List.length_take]; rfl)) ?_; (with_reducible refine (impl_Coder_expand.calls k2 x226000_2 x226001_2 (rd l1 x21_2) t230 t231 _ A22.out).mono ?_); rintro e w26 ⟨rfl, hb⟩; refine ⟨_, rfl, ?_⟩; replace HO_7 := am_ (Kd.R_below (pR_ HO_7.out) hb); replace BK225 := am_ (blkStep (g := gb225) hb); replace BK226 := am_ (blkStep (g := gb226) hb); replace HB := am_ (below_step belowNow hb); (try clear hb); (try clear hb2); (try clear hk); (try clear hi); have hcz27_0 := cz10_ BK225.out 0 rfl; have hcz27_1 := cz10_ BK225.out 1 rfl; have hfz27_0 := blk_frozen BK225.out 0; have hfz27_1 := blk_frozen BK225.out 1) | ((with_reducible refine gate_builtin (b := .append) (xs := #[.tmp 32, .tmp 35]) rfl ?_); (try (refine gate_guard (by rfl) ?_; dsimp only)); at_builtin; refine Kd.R_append (Kd.int .i64) (w0 := w) w.heap.size rfl (.tmp 32) (.tmp 35) 48 3 (.int .i64 0) 8 rfl Try.underlying48 info3 rfl (by decide) (by omega) u7 x7_2 t230 [.int .i64 t230] (fun _ => True) (fun _ => False) rfl (by first | (go_simp; done) | (go_simp; rfl)) ?aP (fun _ hk => hk.elim) ?aF ?aO ?aB ?aS ?aL ?_; (case aP => exact rfl); (case aB => exact belowNow); (case aF => exact (fun _ _ => trivial)); (case aO => exact (by (with_reducible repeat (first | apply Kd.R_alloc | apply Kd.R_drewN | apply Kd.R_drew)); exact Kd.R_mono (Far.rfar2_ (fun _ hk => hk.2) (Kd.R_types HO_7.out BK225.out (by decide))) (fun _ hk => trivial))); (case aS => exact (below_size belowNow)); (case aL => have := LMc23.out; omega); intro v233 w28 ho hb hg hat; rw [← Ny232.out] at ho; have n0_ := am_ (blk_grown (g := gb225) (o := .cells #[.int .i64 t230, .int .i64 t231] 76 (0, 0)) (by (with_reducible repeat (first | refine blk_drewN ?_ _ | refine blk_drew ?_ | refine blk_alloc ?_ _)); refine Far.put2_ #[.int .i64 x226000_2, .int .i64 x226001_2] rfl ?_; (with_reducible repeat (first | refine blk_drewN ?_ _ | refine blk_drew ?_ | refine blk_alloc ?_ _)); exact BK225.out) hg (Kd.R_ne HO_7.out BK225.out (by decide))); have n1_ := am_ (blk_grown (g := gb226) (o := .cells #[.int .i64 x227000_2, .int .i64 x227001_2] 76 (0, 0)) (blkFars) hg (Kd.R_ne HO_7.out BK226.out (by decide))); have n2_ := am_ (hb); have n3_ := am_ (ho); clear BK225; clear BK226; clear HB; clear HO_7; have BK225 := n0_; have BK226 := n1_; have HB := n2_; have HO234 := n3_; clear n0_ n1_ n2_ n3_; clear ho hb hg hat))
     go_roundg k2
     case measure => have := HJ2.out; have := HK2.out; omega
     case rel => exact ⟨(y232), (wrap64 (x21_2 + 1)), (t230), (t231), (x227000_2), (x227001_2), (by first | rfl | (simp; done) | (simp [*]; done)), H', ⟨by have := HJ2.out; have := HK2.out; omega⟩, ⟨pR_ HO234.out⟩, ⟨pB_ BK225.out⟩, ⟨pB_ BK226.out⟩, ⟨belowNow⟩⟩
/-! ### impl_OfFrame: function 60 -/
def impl_OfFrame.n1 (b : Int) : Int := wrap64 (b / 16)
def impl_OfFrame.n2 (b : Int) : Int := wrap64 (bits BinOp.and IntKind.u8 b 15)
def impl_OfFrame.f (k : Nat) (l0 : Int) (a1_0 : Int) (a1_1 : Int) (a1_2 : Int) (a1_3 : Int) (a1_4 : Int) (a1_5 : Int) (a1_6 : Int) (a1_7 : Int) (a1_8 : Int) (a1_9 : Int) (a1_10 : Int) (a1_11 : Int) (a1_12 : Int) (a1_13 : Int) (a1_14 : Int) (a1_15 : Int) : Option (List Int × Int × Int × Bool) := impl_Expand.f k l0 (wrap64 (rd [a1_0, a1_1, a1_2, a1_3, a1_4, a1_5, a1_6, a1_7, a1_8, a1_9, a1_10, a1_11, a1_12, a1_13, a1_14, a1_15] 0)) (([a1_0, a1_1, a1_2, a1_3, a1_4, a1_5, a1_6, a1_7, a1_8, a1_9, a1_10, a1_11, a1_12, a1_13, a1_14, a1_15].drop 1).flatMap fun b => [impl_OfFrame.n1 b, impl_OfFrame.n2 b])
theorem impl_OfFrame.mono : ∀ l0 a1_0 a1_1 a1_2 a1_3 a1_4 a1_5 a1_6 a1_7 a1_8 a1_9 a1_10 a1_11 a1_12 a1_13 a1_14 a1_15 k, LeO (impl_OfFrame.f k l0 a1_0 a1_1 a1_2 a1_3 a1_4 a1_5 a1_6 a1_7 a1_8 a1_9 a1_10 a1_11 a1_12 a1_13 a1_14 a1_15) (impl_OfFrame.f (k + 1) l0 a1_0 a1_1 a1_2 a1_3 a1_4 a1_5 a1_6 a1_7 a1_8 a1_9 a1_10 a1_11 a1_12 a1_13 a1_14 a1_15) := by
 intro l0 a1_0 a1_1 a1_2 a1_3 a1_4 a1_5 a1_6 a1_7 a1_8 a1_9 a1_10 a1_11 a1_12 a1_13 a1_14 a1_15 k
 exact impl_Expand.mono _ _ _ _
theorem impl_OfFrame.list (a1_0 : Int) (a1_1 : Int) (a1_2 : Int) (a1_3 : Int) (a1_4 : Int) (a1_5 : Int) (a1_6 : Int) (a1_7 : Int) (a1_8 : Int) (a1_9 : Int) (a1_10 : Int) (a1_11 : Int) (a1_12 : Int) (a1_13 : Int) (a1_14 : Int) (a1_15 : Int) : (#[.int .u8 a1_0, .int .u8 a1_1, .int .u8 a1_2, .int .u8 a1_3, .int .u8 a1_4, .int .u8 a1_5, .int .u8 a1_6, .int .u8 a1_7, .int .u8 a1_8, .int .u8 a1_9, .int .u8 a1_10, .int .u8 a1_11, .int .u8 a1_12, .int .u8 a1_13, .int .u8 a1_14, .int .u8 a1_15] : Array Value) = Arr.u8s [a1_0, a1_1, a1_2, a1_3, a1_4, a1_5, a1_6, a1_7, a1_8, a1_9, a1_10, a1_11, a1_12, a1_13, a1_14, a1_15] := rfl
set_option maxHeartbeats 8000000 in
set_option maxRecDepth 100000 in
theorem impl_OfFrame.calls (k : Nat) (l0 : Int) (a1_0 : Int) (a1_1 : Int) (a1_2 : Int) (a1_3 : Int) (a1_4 : Int) (a1_5 : Int) (a1_6 : Int) (a1_7 : Int) (a1_8 : Int) (a1_9 : Int) (a1_10 : Int) (a1_11 : Int) (a1_12 : Int) (a1_13 : Int) (a1_14 : Int) (a1_15 : Int) (r1 : List Int) (r2 : Int) (r3 : Int) (r4 : Bool) (w : World) (h : impl_OfFrame.f k l0 a1_0 a1_1 a1_2 a1_3 a1_4 a1_5 a1_6 a1_7 a1_8 a1_9 a1_10 a1_11 a1_12 a1_13 a1_14 a1_15 = some (r1, r2, r3, r4)) :
  Calls Try.prog 60 #[.int .i64 l0, .agg #[.int .u8 a1_0, .int .u8 a1_1, .int .u8 a1_2, .int .u8 a1_3, .int .u8 a1_4, .int .u8 a1_5, .int .u8 a1_6, .int .u8 a1_7, .int .u8 a1_8, .int .u8 a1_9, .int .u8 a1_10, .int .u8 a1_11, .int .u8 a1_12, .int .u8 a1_13, .int .u8 a1_14, .int .u8 a1_15]] w fun e w' => ∃ v0_ : Value, e = .returned (.tuple #[v0_, .agg #[.int .i64 r2, .int .i64 r3], .bool r4]) ∧ Kd.R (Kd.int .i64) 3 w' w.heap.size (fun _ => True) v0_ r1 ∧ Below w.heap.size w w' := by
 have hu := Try.underlying39; have HB := am_ (Below.refl w.heap.size w)
 rw [impl_OfFrame.list a1_0 a1_1 a1_2 a1_3 a1_4 a1_5 a1_6 a1_7 a1_8 a1_9 a1_10 a1_11 a1_12 a1_13 a1_14 a1_15]
 rw [impl_OfFrame.f] at h
 generalize hl : [a1_0, a1_1, a1_2, a1_3, a1_4, a1_5, a1_6, a1_7, a1_8, a1_9, a1_10, a1_11, a1_12, a1_13, a1_14, a1_15] = l at h ⊢
 have hlen : l.length = 16 := by rw [← hl]; rfl
 clear hl; have HL := am_ hlen; have HE := am_ h; clear h hlen
 go_enter Try.func60, Try.ntmps60
 go_wp2_with (first | ((with_reducible refine gate_dst (N := 3) rfl ?_); refine box_event ?hg (N := 3) ?hd (cs := Arr.u8s l) (t := 39) ?hr ?_; (case hd => rfl); (case hg => rfl); (case hr => first | (go_simp; done) | (go_simp; rfl)); intro gA hg_ wgA hbox_ hb_; have SA := am_ hbox_; have n_ := am_ (below_step HB.out hb_); clear HB; have HB := n_; clear n_ hg_ hbox_ hb_) | ((with_reducible refine gate_dst (N := 5) rfl ?_); refine box_event ?hg (N := 5) ?hd (cs := #[.int .i64 0, .int .i64 0]) (t := 76) ?hr ?_; (case hd => rfl); (case hg => rfl); (case hr => first | (go_simp; done) | (go_simp; rfl)); intro gC hg_ wgC hbox_ hb_; have GC := am_ (show w.heap.size ≤ gC by rw [hg_]; exact below_size HB.out); have NAC := am_ (show gA ≠ gC by rw [hg_]; exact Nat.ne_of_lt (blk_lt SA.out)); have n0_ := am_ (blk_below SA.out hb_); have SC := am_ hbox_; have n_ := am_ (below_step HB.out hb_); clear HB SA; have HB := n_; have SA := n0_; clear n_ n0_ hg_ hbox_ hb_))
 have HO := am_ (show Kd.R (Kd.int .i64) 3 wgC w.heap.size (fun _ => True) (.slice none 0 0) [] from Kd.R_nil _ _ _ _ _)
 go_loopg [7, 12] 15 (fun g v7 v12 w' => ∃ (x : Int) (i : Nat) (ys : List Int), v12 = .int .i64 x ∧ Aside0 (x = (i : Int) ∧ i ≤ 15 ∧ g = 15 - i ∧ ys = (((l.take (i + 1)).drop 1).flatMap fun b => [impl_OfFrame.n1 b, impl_OfFrame.n2 b]) ∧ ys.length ≤ 32) ∧ Aside0 (w'.heap[gA]? = some (.cells (Arr.u8s l) 39 (0, 0))) ∧ Aside0 (w'.heap[gC]? = some (.cells #[.int .i64 0, .int .i64 0] 76 (0, 0))) ∧ Aside0 (Kd.R (Kd.int .i64) 3 w' w.heap.size (fun _ => True) v7 ys) ∧ Aside0 (Below w.heap.size w w'))
 case atStart => exact ⟨0, 0, [], rfl, ⟨⟨rfl, by decide, rfl, by simp, by simp⟩⟩, SA, SC, HO, HB⟩
 case round =>
  clear SA SC HO HB; obtain ⟨x, i, ys, rfl, HI, SA, SC, HO, HB⟩ := hrel
  by_cases c : i < 15
  ·have cx : x < 15 := by have := HI.out.1; omega
   have cx0 : 0 ≤ x := by have := HI.out.1; omega
   have hcell := Arr.cell_of SA.out (x + 1) (by omega) (by have := HL.out; omega)
   rw [show (x + 1).toNat = 1 + x.toNat by omega] at hcell
   have cb : decide (x < 15) = true := decide_eq_true cx; clear c; have px := eq_true cx; have px0 := eq_true cx0; clear cx cx0; have LY := am_ (show ys.length ≤ 32 from HI.out.2.2.2.2)
   go_wp2_with (first | ((with_reducible refine gate_dst (N := 23) rfl ?_); refine Kd.R_lit (Kd.int .i64) _ 3 ?hg (N := 23) ?hd (xs := ([impl_OfFrame.n1 (rd l (x + 1)), impl_OfFrame.n2 (rd l (x + 1))] : List Int)) (inner := [.int .i64 (impl_OfFrame.n1 (rd l (x + 1))), .int .i64 (impl_OfFrame.n2 (rd l (x + 1)))]) (ok := fun _ => True) (okp := fun _ => True) ?hr ?hp (fun _ hk => hk) trivial (Below.refl _ _) (Nat.le_refl _) (by simp) ?_; (case hd => rfl); (case hg => rfl); (case hr => simp only [impl_OfFrame.n1, impl_OfFrame.n2]; first | (go_simp; done) | (go_simp; rfl)); (case hp => exact (Reps.one rfl (Reps.one rfl (Reps.none _ _)))); intro v23 w5 ho_ hb_ hg_ hnew_; clear hg_ hnew_; obtain ⟨A23, c23, rfl, hle_, hC_⟩ := Kd.R_reads ho_; have HC := am_ hC_; have n0_ := am_ (blk_below SA.out hb_); have n1_ := am_ (blk_below SC.out hb_); have n2_ := am_ (Kd.R_below HO.out hb_); have n3_ := am_ (below_step HB.out hb_); clear SA SC HO HB; have SA := n0_; have SC := n1_; have HO := n2_; have HB := n3_; clear n0_ n1_ n2_ n3_; clear ho_ hb_ hle_ hC_) | ((with_reducible refine gate_builtin (b := .append) (xs := #[.tmp 16, .tmp 23]) rfl ?_); refine Kd.R_append_rows (Kd.int .i64) (w0 := w) w.heap.size rfl (.tmp 16) (.tmp 23) 48 3 (.int .i64 0) 8 rfl Try.underlying48 info3 rfl (by decide) (by omega) _ ys [impl_OfFrame.n1 (rd l (x + 1)), impl_OfFrame.n2 (rd l (x + 1))] _ _ _ (fun _ => True) (fun _ => False) rfl rfl ?aO ?aR (fun _ _ h => h) (fun _ h => h.elim) ?aF ?aB ?aS ?aL ?_; (case aR => exact HC.out); (case aO => exact HO.out); (case aB => exact HB.out); (case aF => exact (fun _ _ => trivial)); (case aS => exact below_size HB.out); (case aL => have := LY.out; simp only [List.length_cons, List.length_nil]; omega); intro v13 w6 ho_ hb_ hg_ hat_; have n0_ := am_ (blk_grown SA.out hg_ (Kd.R_ne HO.out SA.out (by decide))); have n1_ := am_ (blk_grown SC.out hg_ (Kd.R_ne HO.out SC.out (by decide))); clear SA SC HO HB; have SA := n0_; have SC := n1_; have HO := am_ ho_; have HB := am_ hb_; clear n0_ n1_ ho_ hb_ hg_ hat_))
   go_roundg (14 - i)
   case measure => have := HI.out; have := of_eq_true px; omega
   case rel =>
    have hx := HI.out; have cx := of_eq_true px
    refine ⟨wrap64 (x + 1), i + 1, _, rfl, ⟨⟨by rw [hx.1]; unfold wrap64; omega, by omega, by omega, ?_, ?_⟩⟩, SA, SC, HO, HB⟩
    ·rw [hx.2.2.2.1, hx.1]
     exact Arr.two_more impl_OfFrame.n1 impl_OfFrame.n2 l (i + 1) (by omega) (by have := HL.out; omega)
    ·have h1 := hx.2.2.2.1
     rw [h1, List.length_append, Arr.two_len]
     simp only [List.length_append, List.length_cons, List.length_nil, List.length_drop, List.length_take]
     omega
  ·have hi : i = 15 := by have := HI.out.2.1; omega
   have hys := HI.out.2.2.2.1
   rw [hi, List.take_of_length_le (by have := HL.out; omega)] at hys
   have hx := HI.out.1
   have cb : decide (x < 15) = false := decide_eq_false (by omega)
   clear c; rw [← hys] at HE; clear hys hx HI; obtain ⟨A7, c7, rfl, hle, hC⟩ := Kd.R_reads HO.out; have HC7 := am_ hC; have HLE := am_ hle; clear hC hle
   have hcA : wr.cell? ⟨gA, 0, none⟩ = some (.int .u8 (rd l 0)) := Arr.cell_of SA.out 0 (by decide) (by have := HL.out; omega)
   go_wp2_with (first | (go_at_call 70; (with_reducible refine (impl_Expand.calls k l0 (wrap64 (rd l 0)) A7 c7 _ r1 r2 r3 r4 _ HC7.out HLE.out HE.out).mono ?_); rintro e w6 ⟨v9, rfl, hR_, hb_⟩; (try refine ⟨_, rfl, ?_⟩); have n2_ := am_ (Kd.R_lower hR_ (below_size HB.out)); have n0_ := am_ (blk_below SA.out hb_); have n1_ := am_ (blk_below SC.out hb_); have n3_ := am_ (below_step HB.out hb_); clear SA SC HB; have SA := n0_; have SC := n1_; have HB := n3_; clear n0_ n1_ n3_; clear HO; have HO := n2_; clear n2_ hR_ hb_) | ((with_reducible refine gate_store (t := 76) (p := 5) rfl ?_); refine Arr.store_all (T := 76) (p := 5) (g := gC) (old := #[.int .i64 0, .int .i64 0]) (cs := #[.int .i64 r2, .int .i64 r3]) (t := 76) rfl rfl rfl rfl rfl SC.out (by kernel_rfl) rfl (by first | rfl | simp [Value.oneCell']) ?_; intro w8 hs_ hk_ hB_; have n0_ := am_ ((hk_ _ NAC.out).trans SA.out); have n2_ := am_ (Kd.R_mono (Kd.R_step (Kd.R_types HO.out SC.out (by decide)) (fun k hk _ => hk_ k hk.2)) (fun _ hk => hk.1)); have n3_ := am_ (hB_ _ _ HB.out GC.out); clear SA SC HB HO; have SA := n0_; have SC := am_ hs_; have HB := n3_; have HO := n2_; clear n0_ n2_ n3_ hs_ hk_ hB_; have hc0 := (blk_cell SC.out 0).trans rfl; have hc1 := (blk_cell SC.out 1).trans rfl))
   refine bodyPost_ret (results_list (rs := [.tmp 4, .cell 5 76, .tmp 6]) rfl (by simp) (.tmp (.cell gC 76 #[.int .i64 r2, .int .i64 r3] (0, 0) _ rfl SC.out Try.underlying76 rfl (by kernel_rfl) (.tmp .nil)))) rfl ?_
   exact ⟨_, rfl, HO.out, HB.out⟩

end Go.Proofs.Ytbgdmbjipladoaa.PFnExactPlay
