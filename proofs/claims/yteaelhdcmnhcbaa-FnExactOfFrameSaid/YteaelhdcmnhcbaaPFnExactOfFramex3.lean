-- laid by a program of this session (wip/lay/lay.py); Lean checks it
import Derived.Test.YteaelhdcmnhcbaaPFnExactOfFramex0
import Derived.Test.YteaelhdcmnhcbaaPFnExactOfFramex1
import Derived.Test.YteaelhdcmnhcbaaPFnExactOfFramex2
namespace Go.Proofs.Yteaelhdcmnhcbaa.PFnExactOfFrame
open Go.RowKit Go.Proofs.YteaelhdcmnhcbaaW.PrintWords Go.Proofs.YteaelhdcmnhcbaaW.PrintLast Go.Proofs.YteaelhdcmnhcbaaW.PrintMore
attribute [local go_sem] max2_int min2_int max_two min_two max_three min_three max_four min_four   -- for this text's walks alone
set_option linter.unusedVariables false
set_option linter.unusedSimpArgs false

/-! ### spec_OfFrame: function 34 -/
def spec_OfFrame.n1 (b : Int) : Int := IntKind.i64.wrap (IntKind.u8.wrap (Int.tdiv b 16))
def spec_OfFrame.n2 (b : Int) : Int := IntKind.i64.wrap (Int.tmod b 16)
def spec_OfFrame.f (k : Nat) (l0 : Int) (a1_0 : Int) (a1_1 : Int) (a1_2 : Int) (a1_3 : Int) (a1_4 : Int) (a1_5 : Int) (a1_6 : Int) (a1_7 : Int) (a1_8 : Int) (a1_9 : Int) (a1_10 : Int) (a1_11 : Int) (a1_12 : Int) (a1_13 : Int) (a1_14 : Int) (a1_15 : Int) : Option (List Int × Int × Int × Bool) := (spec_l2Level.f l0).bind fun t => if t = true then (if rd [a1_0, a1_1, a1_2, a1_3, a1_4, a1_5, a1_6, a1_7, a1_8, a1_9, a1_10, a1_11, a1_12, a1_13, a1_14, a1_15] 0 > 48 then some ([], 0, 0, false) else spec_Expand.f k l0 (wrap64 (rd [a1_0, a1_1, a1_2, a1_3, a1_4, a1_5, a1_6, a1_7, a1_8, a1_9, a1_10, a1_11, a1_12, a1_13, a1_14, a1_15] 0)) (([a1_0, a1_1, a1_2, a1_3, a1_4, a1_5, a1_6, a1_7, a1_8, a1_9, a1_10, a1_11, a1_12, a1_13, a1_14, a1_15].drop 1).flatMap fun b => [spec_OfFrame.n1 b, spec_OfFrame.n2 b])) else some ([], 0, 0, false)
theorem spec_OfFrame.mono : ∀ l0 a1_0 a1_1 a1_2 a1_3 a1_4 a1_5 a1_6 a1_7 a1_8 a1_9 a1_10 a1_11 a1_12 a1_13 a1_14 a1_15 k, LeO (spec_OfFrame.f k l0 a1_0 a1_1 a1_2 a1_3 a1_4 a1_5 a1_6 a1_7 a1_8 a1_9 a1_10 a1_11 a1_12 a1_13 a1_14 a1_15) (spec_OfFrame.f (k + 1) l0 a1_0 a1_1 a1_2 a1_3 a1_4 a1_5 a1_6 a1_7 a1_8 a1_9 a1_10 a1_11 a1_12 a1_13 a1_14 a1_15) := by
  intro l0 a1_0 a1_1 a1_2 a1_3 a1_4 a1_5 a1_6 a1_7 a1_8 a1_9 a1_10 a1_11 a1_12 a1_13 a1_14 a1_15 k
  unfold spec_OfFrame.f
  repeat' first
    | (with_reducible exact spec_Expand.mono _ _ _ _)
    | (with_reducible exact LeO.refl _)
    | (with_reducible refine LeO.ite ?_ ?_)
    | (with_reducible refine LeO.bind ?_ (fun _ => ?_))
theorem spec_OfFrame.list (a1_0 : Int) (a1_1 : Int) (a1_2 : Int) (a1_3 : Int) (a1_4 : Int) (a1_5 : Int) (a1_6 : Int) (a1_7 : Int) (a1_8 : Int) (a1_9 : Int) (a1_10 : Int) (a1_11 : Int) (a1_12 : Int) (a1_13 : Int) (a1_14 : Int) (a1_15 : Int) : (#[.int .u8 a1_0, .int .u8 a1_1, .int .u8 a1_2, .int .u8 a1_3, .int .u8 a1_4, .int .u8 a1_5, .int .u8 a1_6, .int .u8 a1_7, .int .u8 a1_8, .int .u8 a1_9, .int .u8 a1_10, .int .u8 a1_11, .int .u8 a1_12, .int .u8 a1_13, .int .u8 a1_14, .int .u8 a1_15] : Array Value) = Arr.u8s [a1_0, a1_1, a1_2, a1_3, a1_4, a1_5, a1_6, a1_7, a1_8, a1_9, a1_10, a1_11, a1_12, a1_13, a1_14, a1_15] := rfl
set_option maxHeartbeats 8000000 in
set_option maxRecDepth 100000 in
theorem spec_OfFrame.calls (k : Nat) (l0 : Int) (a1_0 : Int) (a1_1 : Int) (a1_2 : Int) (a1_3 : Int) (a1_4 : Int) (a1_5 : Int) (a1_6 : Int) (a1_7 : Int) (a1_8 : Int) (a1_9 : Int) (a1_10 : Int) (a1_11 : Int) (a1_12 : Int) (a1_13 : Int) (a1_14 : Int) (a1_15 : Int) (r1 : List Int) (r2 : Int) (r3 : Int) (r4 : Bool) (w : World) (h : spec_OfFrame.f k l0 a1_0 a1_1 a1_2 a1_3 a1_4 a1_5 a1_6 a1_7 a1_8 a1_9 a1_10 a1_11 a1_12 a1_13 a1_14 a1_15 = some (r1, r2, r3, r4)) :
    Calls Try.prog 34 #[.int .i64 l0, .agg #[.int .u8 a1_0, .int .u8 a1_1, .int .u8 a1_2, .int .u8 a1_3, .int .u8 a1_4, .int .u8 a1_5, .int .u8 a1_6, .int .u8 a1_7, .int .u8 a1_8, .int .u8 a1_9, .int .u8 a1_10, .int .u8 a1_11, .int .u8 a1_12, .int .u8 a1_13, .int .u8 a1_14, .int .u8 a1_15]] w fun e w' => ∃ v0_ : Value, e = .returned (.tuple #[v0_, .agg #[.int .i64 r2, .int .i64 r3], .bool r4]) ∧ Kd.R (Kd.int .i64) 3 w' w.heap.size (fun _ => True) v0_ r1 ∧ Below w.heap.size w w' := by
  have hu := Try.underlying41
  have HB := Aside0.mk (Below.refl w.heap.size w)
  rw [spec_OfFrame.list a1_0 a1_1 a1_2 a1_3 a1_4 a1_5 a1_6 a1_7 a1_8 a1_9 a1_10 a1_11 a1_12 a1_13 a1_14 a1_15]
  rw [spec_OfFrame.f] at h
  generalize hl : [a1_0, a1_1, a1_2, a1_3, a1_4, a1_5, a1_6, a1_7, a1_8, a1_9, a1_10, a1_11, a1_12, a1_13, a1_14, a1_15] = l at h ⊢
  have hlen : l.length = 16 := by rw [← hl]; rfl
  clear hl
  have HL := Aside0.mk hlen
  obtain ⟨t, At, H⟩ := Option.bind_eq_some_iff.mp h
  clear h hlen
  cases t with
  | false =>
    rw [if_neg (by decide)] at H
    have H' := Aside0.mk H
    clear H
    have HQ := Aside0.mk (show ∀ W : World, Calls Try.prog 47 #[.int .i64 l0] W (fun e w' => e = .returned (.bool false) ∧ Below W.heap.size W w') from fun W => (spec_l2Level.calls l0 false W At).mono (fun e w' hq => by obtain ⟨h1, nd, rfl⟩ := hq; exact ⟨h1, pw_below_drewN (Below.refl _ _) nd⟩))
    obtain ⟨rfl, rfl, rfl, rfl⟩ : r1 = [] ∧ r2 = 0 ∧ r3 = 0 ∧ r4 = false := by simpa [eq_comm] using H'.out
    clear H' At
    go_enter Try.func34, Try.ntmps34
    go_wp2_with (first | ((with_reducible refine gate_dst (N := 3) rfl ?_); refine box_event ?hg (N := 3) ?hd (cs := Arr.u8s l) (t := 41) ?hr ?_; (case hd => rfl); (case hg => rfl); (case hr => first | (go_simp; done) | (go_simp; rfl)); intro gA hg_ wgA hbox_ hb_; have SA := Aside0.mk hbox_; have n_ := Aside0.mk (below_step HB.out hb_); clear HB; have HB := n_; clear n_ hg_ hbox_ hb_) | ((with_reducible refine gate_dst (N := 5) rfl ?_); refine box_event ?hg (N := 5) ?hd (cs := #[.int .i64 0, .int .i64 0]) (t := 34) ?hr ?_; (case hd => rfl); (case hg => rfl); (case hr => first | (go_simp; done) | (go_simp; rfl)); intro gC hg_ wgC hbox_ hb_; have GC := Aside0.mk (show w.heap.size ≤ gC by rw [hg_]; exact below_size HB.out); have NAC := Aside0.mk (show gA ≠ gC by rw [hg_]; exact Nat.ne_of_lt (blk_lt SA.out)); have n0_ := Aside0.mk (blk_below SA.out hb_); have SC := Aside0.mk hbox_; have n_ := Aside0.mk (below_step HB.out hb_); clear HB SA; have HB := n_; have SA := n0_; clear n_ n0_ hg_ hbox_ hb_) | (go_at_call 47; (with_reducible refine (HQ.out _).mono ?_); rintro e w3 ⟨rfl, hb_⟩; (try refine ⟨_, rfl, ?_⟩); have n0_ := Aside0.mk (blk_below SA.out hb_); have n1_ := Aside0.mk (blk_below SC.out hb_); have n3_ := Aside0.mk (below_step HB.out hb_); clear SA SC HB; have SA := n0_; have SC := n1_; have HB := n3_; clear n0_ n1_ n3_; clear hb_) | ((with_reducible refine gate_dst (N := 17) rfl ?_); refine Kd.R_lit (Kd.int .i64) _ 3 ?hg (N := 17) ?hd (xs := ([] : List Int)) (inner := []) (ok := fun _ => True) (okp := fun _ => True) ?hr ?hp (fun _ hk => hk) trivial (Below.refl _ _) (Nat.le_refl _) (by simp) ?_; (case hd => rfl); (case hg => rfl); (case hr => first | (go_simp; done) | (go_simp; rfl)); (case hp => exact (Reps.none _ _)); intro v17 w4 ho_ hb_ hg_ hnew_; clear hg_ hnew_; have HO := Aside0.mk (Kd.R_lower ho_ (below_size HB.out)); have n0_ := Aside0.mk (blk_below SA.out hb_); have n1_ := Aside0.mk (blk_below SC.out hb_); have n3_ := Aside0.mk (below_step HB.out hb_); clear SA SC HB; have SA := n0_; have SC := n1_; have HB := n3_; clear n0_ n1_ n3_; clear ho_ hb_) | ((with_reducible refine gate_store (t := 34) (p := 5) rfl ?_); refine Arr.store_all (T := 34) (p := 5) (g := gC) (old := #[.int .i64 0, .int .i64 0]) (cs := #[.int .i64 0, .int .i64 0]) (t := 34) rfl rfl rfl rfl rfl SC.out (by kernel_rfl) rfl (by first | rfl | simp [Value.oneCell']) ?_; intro w5 hs_ hk_ hB_; have n0_ := Aside0.mk ((hk_ _ NAC.out).trans SA.out); have n2_ := Aside0.mk (Kd.R_mono (Kd.R_step (Kd.R_types HO.out SC.out (by decide)) (fun k hk _ => hk_ k hk.2)) (fun _ hk => hk.1)); have n3_ := Aside0.mk (hB_ _ _ HB.out GC.out); clear SA SC HB HO; have SA := n0_; have SC := Aside0.mk hs_; have HB := n3_; have HO := n2_; clear n0_ n2_ n3_ hs_ hk_ hB_; have hc0 := (blk_cell SC.out 0).trans rfl; have hc1 := (blk_cell SC.out 1).trans rfl))
    refine bodyPost_ret (results_list (rs := [.tmp 4, .cell 5 34, .tmp 6]) rfl (by simp) (.tmp (.cell gC 34 #[.int .i64 0, .int .i64 0] (0, 0) _ rfl SC.out Try.underlying34 rfl (by kernel_rfl) (.tmp .nil)))) rfl ?_
    exact ⟨_, rfl, HO.out, HB.out⟩
  | true =>
    rw [if_pos rfl] at H
    have HQ := Aside0.mk (show ∀ W : World, Calls Try.prog 47 #[.int .i64 l0] W (fun e w' => e = .returned (.bool true) ∧ Below W.heap.size W w') from fun W => (spec_l2Level.calls l0 true W At).mono (fun e w' hq => by obtain ⟨h1, nd, rfl⟩ := hq; exact ⟨h1, pw_below_drewN (Below.refl _ _) nd⟩))
    clear At
    by_cases c48 : rd l 0 > 48
    · rw [if_pos c48] at H
      obtain ⟨rfl, rfl, rfl, rfl⟩ : r1 = [] ∧ r2 = 0 ∧ r3 = 0 ∧ r4 = false := by simpa [eq_comm] using H
      clear H
      have c48b : decide (rd l 0 > 48) = true := decide_eq_true c48
      clear c48
      go_enter Try.func34, Try.ntmps34
      go_wp2_with (first | ((with_reducible refine gate_dst (N := 3) rfl ?_); refine box_event ?hg (N := 3) ?hd (cs := Arr.u8s l) (t := 41) ?hr ?_; (case hd => rfl); (case hg => rfl); (case hr => first | (go_simp; done) | (go_simp; rfl)); intro gA hg_ wgA hbox_ hb_; have SA := Aside0.mk hbox_; have n_ := Aside0.mk (below_step HB.out hb_); clear HB; have HB := n_; clear n_ hg_ hbox_ hb_) | ((with_reducible refine gate_dst (N := 5) rfl ?_); refine box_event ?hg (N := 5) ?hd (cs := #[.int .i64 0, .int .i64 0]) (t := 34) ?hr ?_; (case hd => rfl); (case hg => rfl); (case hr => first | (go_simp; done) | (go_simp; rfl)); intro gC hg_ wgC hbox_ hb_; have GC := Aside0.mk (show w.heap.size ≤ gC by rw [hg_]; exact below_size HB.out); have NAC := Aside0.mk (show gA ≠ gC by rw [hg_]; exact Nat.ne_of_lt (blk_lt SA.out)); have n0_ := Aside0.mk (blk_below SA.out hb_); have SC := Aside0.mk hbox_; have n_ := Aside0.mk (below_step HB.out hb_); clear HB SA; have HB := n_; have SA := n0_; clear n_ n0_ hg_ hbox_ hb_) | (go_at_call 47; (with_reducible refine (HQ.out _).mono ?_); rintro e w3 ⟨rfl, hb_⟩; (try refine ⟨_, rfl, ?_⟩); have n0_ := Aside0.mk (blk_below SA.out hb_); have n1_ := Aside0.mk (blk_below SC.out hb_); have n3_ := Aside0.mk (below_step HB.out hb_); clear SA SC HB; have SA := n0_; have SC := n1_; have HB := n3_; clear n0_ n1_ n3_; clear hb_; have hcA : w3.cell? ⟨gA, 0, none⟩ = some (.int .u8 (rd l 0)) := Arr.cell_of SA.out 0 (by decide) (by have := HL.out; omega)) | ((with_reducible refine gate_dst (N := 17) rfl ?_); refine Kd.R_lit (Kd.int .i64) _ 3 ?hg (N := 17) ?hd (xs := ([] : List Int)) (inner := []) (ok := fun _ => True) (okp := fun _ => True) ?hr ?hp (fun _ hk => hk) trivial (Below.refl _ _) (Nat.le_refl _) (by simp) ?_; (case hd => rfl); (case hg => rfl); (case hr => first | (go_simp; done) | (go_simp; rfl)); (case hp => exact (Reps.none _ _)); intro v17 w4 ho_ hb_ hg_ hnew_; clear hg_ hnew_; have HO := Aside0.mk (Kd.R_lower ho_ (below_size HB.out)); have n0_ := Aside0.mk (blk_below SA.out hb_); have n1_ := Aside0.mk (blk_below SC.out hb_); have n3_ := Aside0.mk (below_step HB.out hb_); clear SA SC HB; have SA := n0_; have SC := n1_; have HB := n3_; clear n0_ n1_ n3_; clear ho_ hb_) | ((with_reducible refine gate_store (t := 34) (p := 5) rfl ?_); refine Arr.store_all (T := 34) (p := 5) (g := gC) (old := #[.int .i64 0, .int .i64 0]) (cs := #[.int .i64 0, .int .i64 0]) (t := 34) rfl rfl rfl rfl rfl SC.out (by kernel_rfl) rfl (by first | rfl | simp [Value.oneCell']) ?_; intro w5 hs_ hk_ hB_; have n0_ := Aside0.mk ((hk_ _ NAC.out).trans SA.out); have n2_ := Aside0.mk (Kd.R_mono (Kd.R_step (Kd.R_types HO.out SC.out (by decide)) (fun k hk _ => hk_ k hk.2)) (fun _ hk => hk.1)); have n3_ := Aside0.mk (hB_ _ _ HB.out GC.out); clear SA SC HB HO; have SA := n0_; have SC := Aside0.mk hs_; have HB := n3_; have HO := n2_; clear n0_ n2_ n3_ hs_ hk_ hB_; have hc0 := (blk_cell SC.out 0).trans rfl; have hc1 := (blk_cell SC.out 1).trans rfl))
      refine bodyPost_ret (results_list (rs := [.tmp 4, .cell 5 34, .tmp 6]) rfl (by simp) (.tmp (.cell gC 34 #[.int .i64 0, .int .i64 0] (0, 0) _ rfl SC.out Try.underlying34 rfl (by kernel_rfl) (.tmp .nil)))) rfl ?_
      exact ⟨_, rfl, HO.out, HB.out⟩
    · rw [if_neg c48] at H
      have c48b : decide (rd l 0 > 48) = false := decide_eq_false c48
      clear c48
      have HE := Aside0.mk H
      clear H
      go_enter Try.func34, Try.ntmps34
      go_wp2_with (first | ((with_reducible refine gate_dst (N := 3) rfl ?_); refine box_event ?hg (N := 3) ?hd (cs := Arr.u8s l) (t := 41) ?hr ?_; (case hd => rfl); (case hg => rfl); (case hr => first | (go_simp; done) | (go_simp; rfl)); intro gA hg_ wgA hbox_ hb_; have SA := Aside0.mk hbox_; have n_ := Aside0.mk (below_step HB.out hb_); clear HB; have HB := n_; clear n_ hg_ hbox_ hb_) | ((with_reducible refine gate_dst (N := 5) rfl ?_); refine box_event ?hg (N := 5) ?hd (cs := #[.int .i64 0, .int .i64 0]) (t := 34) ?hr ?_; (case hd => rfl); (case hg => rfl); (case hr => first | (go_simp; done) | (go_simp; rfl)); intro gC hg_ wgC hbox_ hb_; have GC := Aside0.mk (show w.heap.size ≤ gC by rw [hg_]; exact below_size HB.out); have NAC := Aside0.mk (show gA ≠ gC by rw [hg_]; exact Nat.ne_of_lt (blk_lt SA.out)); have n0_ := Aside0.mk (blk_below SA.out hb_); have SC := Aside0.mk hbox_; have n_ := Aside0.mk (below_step HB.out hb_); clear HB SA; have HB := n_; have SA := n0_; clear n_ n0_ hg_ hbox_ hb_) | (go_at_call 47; (with_reducible refine (HQ.out _).mono ?_); rintro e w3 ⟨rfl, hb_⟩; (try refine ⟨_, rfl, ?_⟩); have n0_ := Aside0.mk (blk_below SA.out hb_); have n1_ := Aside0.mk (blk_below SC.out hb_); have n3_ := Aside0.mk (below_step HB.out hb_); clear SA SC HB; have SA := n0_; have SC := n1_; have HB := n3_; clear n0_ n1_ n3_; clear hb_; have hcA : w3.cell? ⟨gA, 0, none⟩ = some (.int .u8 (rd l 0)) := Arr.cell_of SA.out 0 (by decide) (by have := HL.out; omega)) | ((with_reducible refine gate_dst (N := 19) rfl ?_); refine Kd.R_lit (Kd.int .i64) _ 3 ?hg (N := 19) ?hd (xs := ([] : List Int)) (inner := []) (ok := fun _ => True) (okp := fun _ => True) ?hr ?hp (fun _ hk => hk) trivial (Below.refl _ _) (Nat.le_refl _) (by simp) ?_; (case hd => rfl); (case hg => rfl); (case hr => first | (go_simp; done) | (go_simp; rfl)); (case hp => exact (Reps.none _ _)); intro v19 w4 ho_ hb_ hg_ hnew_; clear hg_ hnew_; have HO := Aside0.mk (Kd.R_lower ho_ (below_size HB.out)); have n0_ := Aside0.mk (blk_below SA.out hb_); have n1_ := Aside0.mk (blk_below SC.out hb_); have n3_ := Aside0.mk (below_step HB.out hb_); clear SA SC HB; have SA := n0_; have SC := n1_; have HB := n3_; clear n0_ n1_ n3_; clear ho_ hb_))
      clear c48b
      go_loopg [7, 8] 15 (fun g v7 v8 w' => ∃ (x : Int) (i : Nat) (ys : List Int), v8 = .int .i64 x ∧ Aside0 (x = (i : Int) ∧ 1 ≤ i ∧ i ≤ 16 ∧ g = 16 - i ∧ ys = (((l.take i).drop 1).flatMap fun b => [spec_OfFrame.n1 b, spec_OfFrame.n2 b]) ∧ ys.length ≤ 32) ∧ Aside0 (w'.heap[gA]? = some (.cells (Arr.u8s l) 41 (0, 0))) ∧ Aside0 (w'.heap[gC]? = some (.cells #[.int .i64 0, .int .i64 0] 34 (0, 0))) ∧ Aside0 (Kd.R (Kd.int .i64) 3 w' w.heap.size (fun _ => True) v7 ys) ∧ Aside0 (Below w.heap.size w w'))
      case atStart => exact ⟨1, 1, [], rfl, ⟨⟨rfl, Nat.le_refl _, by decide, rfl, by simp, by simp⟩⟩, SA, SC, HO, HB⟩
      case round =>
        clear SA SC HO HB
        obtain ⟨x, i, ys, rfl, HI, SA, SC, HO, HB⟩ := hrel
        by_cases c : i < 16
        · have cx : x < 16 := by have := HI.out.1; omega
          have cx0 : 0 ≤ x := by have := HI.out.1; omega
          have cx1 : x < l.length := by have := HL.out; omega
          have cb : decide (x < 16) = true := decide_eq_true cx
          have CX := Aside0.mk (And.intro cx0 cx1)
          clear c
          have px := eq_true cx
          have px0 := eq_true cx0
          clear cx cx0 cx1
          have LY := Aside0.mk (show ys.length ≤ 32 from HI.out.2.2.2.2.2)
          go_upto_region 7 with (fail)
          · skip
            refine wp_region_held_drew (S := fun w' => w'.heap[gA]? = some (.cells (Arr.u8s l) 41 (0, 0))) rfl (blk_drew SA.out) (fun HS => ?_)
            refine Arl.take (i := 0) (v := ?_) rfl (by kernel_rfl) (by kernel_rfl) (by kernel_rfl) (fun _ _ _ h => h) (by rfl) ?_ HS ?_
            rotate_left
            · (intro w0 hS0; (try have hcell := Arr.cell_of hS0 x CX.out.1 CX.out.2); go_simp; try (with_reducible rfl))
            simp only [Act.put, List.setIfInBounds_toArray, List.set_cons_zero, List.set_cons_succ]
            refine Arl.take (i := 1) (v := ?_) rfl (by kernel_rfl) (by kernel_rfl) (by kernel_rfl) (fun _ _ _ h => h) (by rfl) ?_ HS ?_
            rotate_left
            · (intro w0 hS0; (try have hcell := Arr.cell_of hS0 x CX.out.1 CX.out.2); go_simp; try (with_reducible rfl))
            simp only [Act.put, List.setIfInBounds_toArray, List.set_cons_zero, List.set_cons_succ]
            refine Arl.take (i := 2) (v := ?_) rfl (by kernel_rfl) (by kernel_rfl) (by kernel_rfl) (fun _ _ _ h => h) (by rfl) ?_ HS ?_
            rotate_left
            · (intro w0 hS0; (try have hcell := Arr.cell_of hS0 x CX.out.1 CX.out.2); go_simp; try (with_reducible rfl))
            simp only [Act.put, List.setIfInBounds_toArray, List.set_cons_zero, List.set_cons_succ]
            refine Arl.take (i := 3) (v := ?_) rfl (by kernel_rfl) (by kernel_rfl) (by kernel_rfl) (fun _ _ _ h => h) (by rfl) ?_ HS ?_
            rotate_left
            · (intro w0 hS0; (try have hcell := Arr.cell_of hS0 x CX.out.1 CX.out.2); go_simp; try (with_reducible rfl))
            simp only [Act.put, List.setIfInBounds_toArray, List.set_cons_zero, List.set_cons_succ]
            refine Arl.take (i := 4) (v := ?_) rfl (by kernel_rfl) (by kernel_rfl) (by kernel_rfl) (fun _ _ _ h => h) (by rfl) ?_ HS ?_
            rotate_left
            · (intro w0 hS0; (try have hcell := Arr.cell_of hS0 x CX.out.1 CX.out.2); go_simp; try (with_reducible rfl))
            simp only [Act.put, List.setIfInBounds_toArray, List.set_cons_zero, List.set_cons_succ]
            refine Arl.take (i := 5) (v := ?_) rfl (by kernel_rfl) (by kernel_rfl) (by kernel_rfl) (fun _ _ _ h => h) (by rfl) ?_ HS ?_
            rotate_left
            · (intro w0 hS0; (try have hcell := Arr.cell_of hS0 x CX.out.1 CX.out.2); go_simp; try (with_reducible rfl))
            simp only [Act.put, List.setIfInBounds_toArray, List.set_cons_zero, List.set_cons_succ]
            refine Arl.take (i := 6) (v := ?_) rfl (by kernel_rfl) (by kernel_rfl) (by kernel_rfl) (fun _ _ _ h => h) (by rfl) ?_ HS ?_
            rotate_left
            · (intro w0 hS0; (try have hcell := Arr.cell_of hS0 x CX.out.1 CX.out.2); go_simp; try (with_reducible rfl))
            simp only [Act.put, List.setIfInBounds_toArray, List.set_cons_zero, List.set_cons_succ]
            refine Arl.take (i := 7) (v := ?_) rfl (by kernel_rfl) (by kernel_rfl) (by kernel_rfl) (fun _ _ _ h => h) (by rfl) ?_ HS ?_
            rotate_left
            · (intro w0 hS0; (try have hcell := Arr.cell_of hS0 x CX.out.1 CX.out.2); go_simp; try (with_reducible rfl))
            simp only [Act.put, List.setIfInBounds_toArray, List.set_cons_zero, List.set_cons_succ]
            refine Arl.take (i := 8) (v := ?_) rfl (by kernel_rfl) (by kernel_rfl) (by kernel_rfl) (fun _ _ _ h => h) (by rfl) ?_ HS ?_
            rotate_left
            · (intro w0 hS0; (try have hcell := Arr.cell_of hS0 x CX.out.1 CX.out.2); go_simp; try (with_reducible rfl))
            simp only [Act.put, List.setIfInBounds_toArray, List.set_cons_zero, List.set_cons_succ]
            refine Arl.take (i := 9) (v := ?_) rfl (by kernel_rfl) (by kernel_rfl) (by kernel_rfl) (fun _ _ _ h => h) (by rfl) ?_ HS ?_
            rotate_left
            · (intro w0 hS0; (try have hcell := Arr.cell_of hS0 x CX.out.1 CX.out.2); go_simp; try (with_reducible rfl))
            simp only [Act.put, List.setIfInBounds_toArray, List.set_cons_zero, List.set_cons_succ]
            refine Arl.take (i := 10) (v := ?_) rfl (by kernel_rfl) (by kernel_rfl) (by kernel_rfl) (fun _ _ _ h => h) (by rfl) ?_ HS ?_
            rotate_left
            · (intro w0 hS0; (try have hcell := Arr.cell_of hS0 x CX.out.1 CX.out.2); go_simp; try (with_reducible rfl))
            simp only [Act.put, List.setIfInBounds_toArray, List.set_cons_zero, List.set_cons_succ]
            refine wpAnyH_ready (rs := [11]) (by kernel_rfl) (by simp) ?_
            refine AllReadyH.cons (o := _) (Arl.nth_some rfl) (fun K hK => ?_) AllReadyH.nil
            refine Kd.R_lit_step (Kd.int .i64) _ 3 ?hg (N := 35) ?hd (xs := [spec_OfFrame.n1 (rd l x), spec_OfFrame.n2 (rd l x)]) (inner := [.int .i64 (spec_OfFrame.n1 (rd l x)), .int .i64 (spec_OfFrame.n2 (rd l x))]) (ok := fun _ => True) (okp := fun _ => True) ?hr ?hp (fun _ hk => hk) trivial (Below.refl _ _) (Nat.le_refl _) (by simp) ?_
            (case hd => rfl)
            (case hg => rfl)
            (case hr => simp only [spec_OfFrame.n1, spec_OfFrame.n2]; first | (go_simp; done) | (go_simp; rfl))
            (case hp => exact Reps.one rfl (Reps.one rfl (Reps.none _ _)))
            intro v35 w5 ho hb_ hg_ hnew_
            obtain ⟨A35, c35, rfl, hle, hC⟩ := Kd.R_reads ho
            have n0_ := Aside0.mk (blk_below (blk_drew SA.out) hb_)
            have n1_ := Aside0.mk (blk_below (blk_drew SC.out) hb_)
            have n2_ := Aside0.mk (Kd.R_below (Kd.R_drew HO.out) hb_)
            have n3_ := Aside0.mk (below_step (below_drew1 HB.out) hb_)
            have HC := Aside0.mk hC
            clear SA SC HO HB HS ho hb_ hg_ hnew_ hC hle
            have SA := n0_
            have SC := n1_
            have HO := n2_
            have HB := n3_
            clear n0_ n1_ n2_ n3_
            refine hK.out _ _ SA.out (fun HS => ?_)
            simp only [Act.put, List.setIfInBounds_toArray, List.set_cons_zero, List.set_cons_succ]
            refine wpAnyH_ready (rs := [12]) (by kernel_rfl) (by simp) ?_
            refine AllReadyH.cons (o := _) (Arl.nth_some rfl) (fun K hK => ?_) AllReadyH.nil
            refine Kd.R_append_rows_step (Kd.int .i64) (w0 := w) w.heap.size (by rfl) (.tmp 24) (.tmp 35) 24 3 (.int .i64 0) 8 rfl Try.underlying24 info3 rfl (by decide) (by omega) _ ys [spec_OfFrame.n1 (rd l x), spec_OfFrame.n2 (rd l x)] _ _ _ (fun _ => True) (fun _ => False) rfl rfl ?aO ?aR (fun _ _ h => h) (fun _ h => h.elim) ?aF ?aB ?aS ?aL ?_
            (case aR => exact HC.out)
            (case aO => exact HO.out)
            (case aB => exact HB.out)
            (case aF => exact (fun _ _ => trivial))
            (case aS => exact below_size HB.out)
            (case aL => have := LY.out; simp only [List.length_cons, List.length_nil]; omega)
            intro v13 w6 ho hb_ hg_ hat
            have n0_ := Aside0.mk (blk_grown SA.out hg_ (Kd.R_ne HO.out SA.out (by decide)))
            have n1_ := Aside0.mk (blk_grown SC.out hg_ (Kd.R_ne HO.out SC.out (by decide)))
            refine hK.out _ _ n0_.out (fun HS => ?_)
            simp only [Act.put, List.setIfInBounds_toArray, List.set_cons_zero, List.set_cons_succ]
            refine Arl.take (i := 13) (v := ?_) rfl (by kernel_rfl) (by kernel_rfl) (by kernel_rfl) (fun _ _ _ h => h) (by rfl) ?_ HS ?_
            rotate_left
            · (intro w0 hS0; (try have hcell := Arr.cell_of hS0 x CX.out.1 CX.out.2); go_simp; try (with_reducible rfl))
            simp only [Act.put, List.setIfInBounds_toArray, List.set_cons_zero, List.set_cons_succ]
            refine wpAnyH_done (by kernel_rfl) ?_ _
            have SA' := n0_
            have SC' := n1_
            have HO' := Aside0.mk ho
            have HB' := Aside0.mk hb_
            clear SA SC HO HB n0_ n1_ ho hb_ hg_ hat HS
            go_wp2
            go_roundg (15 - i)
            case measure => have := HI.out; have := of_eq_true px; omega
            case rel =>
              have hx := HI.out
              have cx := of_eq_true px
              refine ⟨wrap64 (x + 1), i + 1, _, rfl, ⟨⟨by rw [hx.1]; unfold wrap64; omega, by omega, by omega, by omega, ?_, ?_⟩⟩, SA', SC', HO', HB'⟩
              · rw [hx.2.2.2.2.1, hx.1]
                exact Arr.two_more spec_OfFrame.n1 spec_OfFrame.n2 l i hx.2.1 (by have := HL.out; omega)
              · have h1 := hx.2.2.2.2.1
                rw [h1, List.length_append, Arr.two_len]
                simp only [List.length_append, List.length_cons, List.length_nil, List.length_drop, List.length_take]
                omega
        · have hi : i = 16 := by have := HI.out.2.2.1; omega
          have hys := HI.out.2.2.2.2.1
          rw [hi, List.take_of_length_le (by have := HL.out; omega)] at hys
          have hx := HI.out.1
          have cb : decide (x < 16) = false := decide_eq_false (by omega)
          clear c
          rw [← hys] at HE
          clear hys hx HI
          obtain ⟨A7, c7, rfl, hle, hC⟩ := Kd.R_reads HO.out
          have HC7 := Aside0.mk hC
          have HLE := Aside0.mk hle
          clear hC hle
          have hcA : wr.cell? ⟨gA, 0, none⟩ = some (.int .u8 (rd l 0)) := Arr.cell_of SA.out 0 (by decide) (by have := HL.out; omega)
          go_wp2_with (first | (go_at_call 28; (with_reducible refine (spec_Expand.calls k l0 (wrap64 (rd l 0)) A7 c7 _ r1 r2 r3 r4 _ HC7.out HLE.out HE.out).mono ?_); rintro e w6 ⟨v9, rfl, hR_, hb_⟩; (try refine ⟨_, rfl, ?_⟩); have n2_ := Aside0.mk (Kd.R_lower hR_ (below_size HB.out)); have n0_ := Aside0.mk (blk_below SA.out hb_); have n1_ := Aside0.mk (blk_below SC.out hb_); have n3_ := Aside0.mk (below_step HB.out hb_); clear SA SC HB; have SA := n0_; have SC := n1_; have HB := n3_; clear n0_ n1_ n3_; clear HO; have HO := n2_; clear n2_ hR_ hb_) | ((with_reducible refine gate_store (t := 34) (p := 5) rfl ?_); refine Arr.store_all (T := 34) (p := 5) (g := gC) (old := #[.int .i64 0, .int .i64 0]) (cs := #[.int .i64 r2, .int .i64 r3]) (t := 34) rfl rfl rfl rfl rfl SC.out (by kernel_rfl) rfl (by first | rfl | simp [Value.oneCell']) ?_; intro w8 hs_ hk_ hB_; have n0_ := Aside0.mk ((hk_ _ NAC.out).trans SA.out); have n2_ := Aside0.mk (Kd.R_mono (Kd.R_step (Kd.R_types HO.out SC.out (by decide)) (fun k hk _ => hk_ k hk.2)) (fun _ hk => hk.1)); have n3_ := Aside0.mk (hB_ _ _ HB.out GC.out); clear SA SC HB HO; have SA := n0_; have SC := Aside0.mk hs_; have HB := n3_; have HO := n2_; clear n0_ n2_ n3_ hs_ hk_ hB_; have hc0 := (blk_cell SC.out 0).trans rfl; have hc1 := (blk_cell SC.out 1).trans rfl))
          refine bodyPost_ret (results_list (rs := [.tmp 4, .cell 5 34, .tmp 6]) rfl (by simp) (.tmp (.cell gC 34 #[.int .i64 r2, .int .i64 r3] (0, 0) _ rfl SC.out Try.underlying34 rfl (by kernel_rfl) (.tmp .nil)))) rfl ?_
          exact ⟨_, rfl, HO.out, HB.out⟩

/-! ### laws_toByteA16: function 35 -/
def laws_toByteA16.f (a0_0 : Int) (a0_1 : Int) (a0_2 : Int) (a0_3 : Int) (a0_4 : Int) (a0_5 : Int) (a0_6 : Int) (a0_7 : Int) (a0_8 : Int) (a0_9 : Int) (a0_10 : Int) (a0_11 : Int) (a0_12 : Int) (a0_13 : Int) (a0_14 : Int) (a0_15 : Int) : Option (Int × Int × Int × Int × Int × Int × Int × Int × Int × Int × Int × Int × Int × Int × Int × Int) := some (a0_0, a0_1, a0_2, a0_3, a0_4, a0_5, a0_6, a0_7, a0_8, a0_9, a0_10, a0_11, a0_12, a0_13, a0_14, a0_15)
theorem laws_toByteA16.list (a0_0 a0_1 a0_2 a0_3 a0_4 a0_5 a0_6 a0_7 a0_8 a0_9 a0_10 a0_11 a0_12 a0_13 a0_14 a0_15 : Int) : (#[.int .u8 a0_0, .int .u8 a0_1, .int .u8 a0_2, .int .u8 a0_3, .int .u8 a0_4, .int .u8 a0_5, .int .u8 a0_6, .int .u8 a0_7, .int .u8 a0_8, .int .u8 a0_9, .int .u8 a0_10, .int .u8 a0_11, .int .u8 a0_12, .int .u8 a0_13, .int .u8 a0_14, .int .u8 a0_15] : Array Value) = Arr.u8s [a0_0, a0_1, a0_2, a0_3, a0_4, a0_5, a0_6, a0_7, a0_8, a0_9, a0_10, a0_11, a0_12, a0_13, a0_14, a0_15] := rfl
set_option maxHeartbeats 4000000 in
set_option maxRecDepth 100000 in
theorem laws_toByteA16.calls (a0_0 : Int) (a0_1 : Int) (a0_2 : Int) (a0_3 : Int) (a0_4 : Int) (a0_5 : Int) (a0_6 : Int) (a0_7 : Int) (a0_8 : Int) (a0_9 : Int) (a0_10 : Int) (a0_11 : Int) (a0_12 : Int) (a0_13 : Int) (a0_14 : Int) (a0_15 : Int) (r1 : Int) (r2 : Int) (r3 : Int) (r4 : Int) (r5 : Int) (r6 : Int) (r7 : Int) (r8 : Int) (r9 : Int) (r10 : Int) (r11 : Int) (r12 : Int) (r13 : Int) (r14 : Int) (r15 : Int) (r16 : Int) (w : World) (h : laws_toByteA16.f a0_0 a0_1 a0_2 a0_3 a0_4 a0_5 a0_6 a0_7 a0_8 a0_9 a0_10 a0_11 a0_12 a0_13 a0_14 a0_15 = some (r1, r2, r3, r4, r5, r6, r7, r8, r9, r10, r11, r12, r13, r14, r15, r16)) :
    Calls Try.prog 35 #[.agg #[.int .u8 a0_0, .int .u8 a0_1, .int .u8 a0_2, .int .u8 a0_3, .int .u8 a0_4, .int .u8 a0_5, .int .u8 a0_6, .int .u8 a0_7, .int .u8 a0_8, .int .u8 a0_9, .int .u8 a0_10, .int .u8 a0_11, .int .u8 a0_12, .int .u8 a0_13, .int .u8 a0_14, .int .u8 a0_15]] w fun e w' => e = .returned (.agg #[.int .u8 r1, .int .u8 r2, .int .u8 r3, .int .u8 r4, .int .u8 r5, .int .u8 r6, .int .u8 r7, .int .u8 r8, .int .u8 r9, .int .u8 r10, .int .u8 r11, .int .u8 r12, .int .u8 r13, .int .u8 r14, .int .u8 r15, .int .u8 r16]) ∧ Below w.heap.size w w' := by
  have hu := Try.underlying41
  have HB := Aside0.mk (Below.refl w.heap.size w)
  unfold laws_toByteA16.f at h
  simp only [Option.some.injEq, Prod.mk.injEq] at h
  obtain ⟨rfl, rfl, rfl, rfl, rfl, rfl, rfl, rfl, rfl, rfl, rfl, rfl, rfl, rfl, rfl, rfl⟩ := h
  rw [laws_toByteA16.list a0_0 a0_1 a0_2 a0_3 a0_4 a0_5 a0_6 a0_7 a0_8 a0_9 a0_10 a0_11 a0_12 a0_13 a0_14 a0_15]
  generalize hl : [a0_0, a0_1, a0_2, a0_3, a0_4, a0_5, a0_6, a0_7, a0_8, a0_9, a0_10, a0_11, a0_12, a0_13, a0_14, a0_15] = l
  have hlen : l.length = 16 := by rw [← hl]; rfl
  clear hl
  have HL := Aside0.mk hlen
  clear hlen
  go_enter Try.func35, Try.ntmps35
  go_wp2_with (first | ((with_reducible refine gate_dst (N := 1) rfl ?_); refine box_event ?hg (N := 1) ?hd (cs := Arr.u8s l) (t := 41) ?hr ?_; (case hd => rfl); (case hg => rfl); (case hr => first | (go_simp; done) | (go_simp; rfl)); intro g1 hg_ w1 hbox_ hb_; have hg_g1 := Aside0.mk hg_; have hbox_g1 := Aside0.mk hbox_; have hb_g1 := Aside0.mk hb_; clear hg_ hbox_ hb_) | ((with_reducible refine gate_dst (N := 2) rfl ?_); refine box_event ?hg (N := 2) ?hd (cs := #[.int .u8 0, .int .u8 0, .int .u8 0, .int .u8 0, .int .u8 0, .int .u8 0, .int .u8 0, .int .u8 0, .int .u8 0, .int .u8 0, .int .u8 0, .int .u8 0, .int .u8 0, .int .u8 0, .int .u8 0, .int .u8 0]) (t := 41) ?hr ?_; (case hd => rfl); (case hg => rfl); (case hr => first | (go_simp; done) | (go_simp; rfl)); intro g2 hg_ w2 hbox_ hb_; have hg_g2 := Aside0.mk hg_; have hbox_g2 := Aside0.mk hbox_; have hb_g2 := Aside0.mk hb_; clear hg_ hbox_ hb_) | ((with_reducible refine gate_dst (N := 3) rfl ?_); refine box_event ?hg (N := 3) ?hd (cs := #[.int .u8 0, .int .u8 0, .int .u8 0, .int .u8 0, .int .u8 0, .int .u8 0, .int .u8 0, .int .u8 0, .int .u8 0, .int .u8 0, .int .u8 0, .int .u8 0, .int .u8 0, .int .u8 0, .int .u8 0, .int .u8 0]) (t := 41) ?hr ?_; (case hd => rfl); (case hg => rfl); (case hr => first | (go_simp; done) | (go_simp; rfl)); intro g3 hg_ w3 hbox_ hb_; have hg_g3 := Aside0.mk hg_; have hbox_g3 := Aside0.mk hbox_; have hb_g3 := Aside0.mk hb_; clear hg_ hbox_ hb_))
  have S1 := Aside0.mk (blk_below (blk_below hbox_g1.out hb_g2.out) hb_g3.out)
  have S2 := Aside0.mk (blk_below hbox_g2.out hb_g3.out)
  have S3 := Aside0.mk (show w3.heap[g3]? = some (.cells (Arr.u8s (l.take 0 ++ List.replicate (16 - 0) 0)) 41 (0, 0)) from hbox_g3.out)
  have N12 := Aside0.mk (show g1 ≠ g2 by rw [hg_g2.out]; exact Nat.ne_of_lt (blk_lt hbox_g1.out))
  have N13 := Aside0.mk (show g1 ≠ g3 by rw [hg_g3.out]; exact Nat.ne_of_lt (blk_lt (blk_below hbox_g1.out hb_g2.out)))
  have N23 := Aside0.mk (show g2 ≠ g3 by rw [hg_g3.out]; exact Nat.ne_of_lt (blk_lt hbox_g2.out))
  have HB3 := Aside0.mk (below_step (below_step hb_g1.out hb_g2.out) hb_g3.out)
  have G2 := Aside0.mk (show w.heap.size ≤ g2 by rw [hg_g2.out]; exact below_size hb_g1.out)
  have G3 := Aside0.mk (show w.heap.size ≤ g3 by rw [hg_g3.out]; exact below_size (below_step hb_g1.out hb_g2.out))
  clear hbox_g1 hbox_g2 hbox_g3 hb_g1 hb_g2 hb_g3 hg_g1 hg_g2 hg_g3 HB
  go_loopg [4] 17 (fun g v4 w' => ∃ (x : Int) (i : Nat), v4 = .int .i64 x ∧ Aside0 (x = (i : Int) ∧ i ≤ 16 ∧ g = 17 - i) ∧ Aside0 (w'.heap[g1]? = some (.cells (Arr.u8s l) 41 (0, 0))) ∧ Aside0 (w'.heap[g2]? = some (.cells #[.int .u8 0, .int .u8 0, .int .u8 0, .int .u8 0, .int .u8 0, .int .u8 0, .int .u8 0, .int .u8 0, .int .u8 0, .int .u8 0, .int .u8 0, .int .u8 0, .int .u8 0, .int .u8 0, .int .u8 0, .int .u8 0] 41 (0, 0))) ∧ Aside0 (w'.heap[g3]? = some (.cells (Arr.u8s (l.take i ++ List.replicate (16 - i) 0)) 41 (0, 0))) ∧ Aside0 (Below w.heap.size w w'))
  case atStart => exact ⟨0, 0, rfl, ⟨⟨rfl, Nat.zero_le _, rfl⟩⟩, S1, S2, S3, HB3⟩
  case round =>
    clear S1 S2 S3 HB3
    obtain ⟨x, i, rfl, HI, S1, S2, S3, HB⟩ := hrel
    by_cases c : i < 16
    · have cx : x < 16 := by have := HI.out.1; omega
      have cx0 : 0 ≤ x := by have := HI.out.1; omega
      have hlen3 : (l.take i ++ List.replicate (16 - i) (0 : Int)).length = 16 := by have := HL.out; simp; omega
      have hc1 := Arr.cell_of S1.out x cx0 (by have := HL.out; omega)
      have hc3 := Arr.cell_of S3.out x cx0 (by omega)
      have hf3 := blk_frozen S3.out x.toNat
      have hset : (l.take i ++ List.replicate (16 - i) (0 : Int)).set x.toNat (rd l x) = l.take (i + 1) ++ List.replicate (16 - (i + 1)) (0 : Int) := by
        have e : x.toNat = i := by have := HI.out.1; omega
        have hl2 := HL.out
        rw [e]
        apply List.ext_getElem?
        intro j
        by_cases hj : j = i
        · subst hj
          rw [List.getElem?_set_self (by simp; omega), List.getElem?_append_left (by simp; omega), List.getElem?_take_of_lt (by omega), List.getElem?_eq_getElem (by omega)]
          simp [rd, e, List.getD_eq_getElem?_getD, List.getElem?_eq_getElem (show j < l.length by omega)]
        · rw [List.getElem?_set_ne (by omega)]
          by_cases h1 : j < i
          · rw [List.getElem?_append_left (by simp; omega), List.getElem?_append_left (by simp; omega), List.getElem?_take_of_lt h1, List.getElem?_take_of_lt (by omega)]
          · rw [List.getElem?_append_right (by simp; omega), List.getElem?_append_right (by simp; omega), List.getElem?_replicate, List.getElem?_replicate]
            simp only [List.length_take]
            split <;> split <;> first | rfl | omega
      have HS := Aside0.mk hset
      have cb : decide (x < 16) = true := decide_eq_true cx
      replace cx := eq_true cx
      replace cx0 := eq_true cx0
      clear c hset hlen3
      have hn13 := N13.out
      have hn31 := N13.out.symm
      go_wp2
      go_roundg (16 - i)
      case measure => have := HI.out; omega
      case rel =>
        have hx := HI.out
        have cx' := of_eq_true cx
        exact ⟨wrap64 (x + 1), i + 1, rfl, ⟨⟨by rw [hx.1]; unfold wrap64; omega, by omega, by omega⟩⟩, ⟨Arr.blk_other S1.out hn31⟩, ⟨Arr.blk_other S2.out N23.out.symm⟩, ⟨by have := Arr.put_of S3.out x.toNat (rd l x); rw [HS.out] at this; exact this⟩, ⟨below_set HB.out G3.out⟩⟩
    · have hi : i = 16 := by have := HI.out.2.1; omega
      subst hi
      have hx := HI.out.1
      have S3' := Aside0.mk (show wr.heap[g3]? = some (.cells (Arr.u8s l) 41 (0, 0)) by have := S3.out; rwa [List.take_of_length_le (by have := HL.out; omega), Nat.sub_self, List.replicate_zero, List.append_nil] at this)
      clear S3
      have cb : decide (x < 16) = false := decide_eq_false (by omega)
      clear c
      have hsz := HL.out
      go_wp2_with (first | ((with_reducible refine gate_dst (N := 14) rfl ?_); refine Arr.load_all rfl rfl rfl rfl S3'.out hu rfl (by rw [Arr.u8s_size, HL.out]; kernel_rfl) ?_) | ((with_reducible refine gate_store (t := 41) (p := 2) rfl ?_); refine Arr.store_all rfl rfl rfl rfl rfl S2.out (by rw [Arr.u8s_size, HL.out]; kernel_rfl) (by rw [Arr.u8s_size, HL.out]; rfl) (Arr.u8s_one l) ?_; intro w9 hs9 hk9 hB9; have S9 := Aside0.mk hs9; have HB9 := Aside0.mk (hB9 _ _ HB.out G2.out); clear hs9 hk9 hB9))
      refine bodyPost_ret (results_cell_row rfl _ _ g2 41 (Arr.u8s l) (0, 0) _ rfl S9.out hu rfl (by rw [Arr.u8s_size, HL.out]; kernel_rfl)) rfl ?_
      exact ⟨rfl, HB9.out⟩

/-! ### impl_in: function 46 -/
def impl_in.f (a0 : Int) (a1 : Int) (a2 : Int) : Option (Bool) := if a0 ≥ a1 then (some (decide (a0 ≤ a2))) else (some false)
set_option maxHeartbeats 8000000 in
set_option maxRecDepth 100000 in
theorem impl_in.calls (a0 : Int) (a1 : Int) (a2 : Int) (r : Bool) (w : World) (h : impl_in.f a0 a1 a2 = some r) :
    Calls Try.prog 46 #[.int .i64 a0, .int .i64 a1, .int .i64 a2] w fun e w' => e = .returned (.bool r) ∧ Drawn0 w w' := by
  have H : (if a0 ≥ a1 then (some (decide (a0 ≤ a2))) else (some false)) = some r := h
  clear h
  by_cases c4 : a0 ≥ a1
  · rw [if_pos c4] at H
    have c4b0 : decide (a1 ≤ a0) = true := decide_eq_true c4
    clear c4
    obtain rfl := Option.some.inj H
    go_enter Try.func46, Try.ntmps46
    go_wp2
    go_ret
    exact ⟨by first | rfl | (simp; done) | (simp [*]; done), by repeat (first | exact Drawn0.refl _ | apply Drawn0.step)⟩
  · rw [if_neg c4] at H
    have c4b0 : decide (a1 ≤ a0) = false := decide_eq_false c4
    clear c4
    obtain rfl := Option.some.inj H
    go_enter Try.func46, Try.ntmps46
    go_wp2
    go_ret
    exact ⟨by first | rfl | (simp; done) | (simp [*]; done), by repeat (first | exact Drawn0.refl _ | apply Drawn0.step)⟩

/-! ### impl_coderOk: function 57 -/
def impl_coderOk.f (a0_0 : Int) (a0_1 : Int) : Option (Bool) := (impl_in.f a0_0 (-32767) 32767).bind fun t140 => (if t140 = true then ((impl_in.f a0_1 0 48).bind fun t141 => (some t141)) else (some false))
set_option maxHeartbeats 8000000 in
set_option maxRecDepth 100000 in
theorem impl_coderOk.calls (a0_0 : Int) (a0_1 : Int) (r : Bool) (w : World) (h : impl_coderOk.f a0_0 a0_1 = some r) :
    Calls Try.prog 57 #[.agg #[.int .i64 a0_0, .int .i64 a0_1]] w fun e w' => e = .returned (.bool r) ∧ Below w.heap.size w w' := by
  have hu34 := Try.underlying34
  have HB := Aside0.mk (Below.refl w.heap.size w)
  have H : ((impl_in.f a0_0 (-32767) 32767).bind fun t140 => (if t140 = true then ((impl_in.f a0_1 0 48).bind fun t141 => (some t141)) else (some false))) = some r := h
  clear h
  replace H := Option.bind_eq_some_iff.mp H
  obtain ⟨t140, A20, H⟩ := H
  replace H : (if t140 = true then ((impl_in.f a0_1 0 48).bind fun t141 => (some t141)) else (some false)) = some r := H
  have A2 := Aside0.mk A20
  clear A20
  by_cases c3 : t140 = true
  · subst c3
    have H1 : ((impl_in.f a0_1 0 48).bind fun t141 => (some t141)) = some r := by rw [if_pos rfl] at H; exact H
    clear H
    have H := H1
    clear H1
    replace H := Option.bind_eq_some_iff.mp H
    obtain ⟨t141, A40, H⟩ := H
    replace H : (some t141) = some r := H
    have A4 := Aside0.mk A40
    clear A40
    obtain rfl := Option.some.inj H
    go_enter Try.func57, Try.ntmps57
    go_wp2_with (first | ((with_reducible refine gate_dst (N := 1) rfl ?_); refine box_event ?hg (N := 1) ?hd (cs := #[.int .i64 a0_0, .int .i64 a0_1]) (t := 34) ?hr ?_; (case hd => rfl); (case hg => rfl); (case hr => first | (go_simp; done) | (go_simp; rfl)); intro gb139 hg w5 hbox hb; have n0_ := Aside0.mk (below_step (by repeat (first | (with_reducible first | exact HB.out | apply below_alloc | apply pw_below_drewN | apply below_drew1) | exact HB.out)) hb); have n1_ := Aside0.mk (hbox); have n2_ := Aside0.mk ((by rw [hg]; exact (below_size (by repeat (first | (with_reducible first | exact HB.out | apply below_alloc | apply pw_below_drewN | apply below_drew1) | exact HB.out))) : w.heap.size ≤ gb139)); have n3_ := Aside0.mk ((by rw [hg]; exact (below_size (by repeat (first | (with_reducible first | exact HB.out | apply below_alloc | apply pw_below_drewN | apply below_drew1) | exact HB.out))) : w.heap.size ≤ gb139)); clear HB; have HB := n0_; have BK139 := n1_; have GW139 := n2_; have GE139 := n3_; clear n0_ n1_ n2_ n3_; clear hb hbox hg; have hcz6_0 : w5.cell? ⟨gb139, 0, none⟩ = some (.int .i64 a0_0) := (blk_cell BK139.out 0).trans rfl; have hcz6_1 : w5.cell? ⟨gb139, 1, none⟩ = some (.int .i64 a0_1) := (blk_cell BK139.out 1).trans rfl; have hfz6_0 := blk_frozen BK139.out 0; have hfz6_1 := blk_frozen BK139.out 1) | ((with_reducible refine gate_callee (f := 46) rfl ?_); refine goesL_ (some 5) rfl rfl Try.func46 (by kernel_rfl) rfl #[.int .i64 a0_0, .int .i64 (-32767), .int .i64 32767] rfl (by (try simp only [List.map_toArray, List.map_cons, List.map_nil]); first | done | rfl | (simp only [List.length_drop, List.length_take]; rfl)) ?_; (with_reducible refine (impl_in.calls a0_0 (-32767) 32767 true _ A2.out).mono ?_); rintro e w' ⟨rfl, ⟨nd, rfl⟩⟩; refine ⟨_, rfl, ?_⟩) | (go_at_call 46; (with_reducible refine (impl_in.calls a0_1 0 48 t141 _ A4.out).mono ?_); rintro e w' ⟨rfl, ⟨nd, rfl⟩⟩))
    go_ret
    exact ⟨by first | rfl | (simp [errW_none, errW_some] <;> rfl) | (simp [*, errW_none, errW_some] <;> rfl), by repeat (first | (with_reducible first | exact HB.out | apply below_alloc | apply pw_below_drewN | apply below_drew1 | refine below_set ?_ GE139.out) | exact HB.out)⟩
  · replace c3 := Bool.eq_false_iff.mpr c3
    subst c3
    have H1 : (some false) = some r := by rw [if_neg (show ¬ (false = true) by decide)] at H; exact H
    clear H
    have H := H1
    clear H1
    obtain rfl := Option.some.inj H
    go_enter Try.func57, Try.ntmps57
    go_wp2_with (first | ((with_reducible refine gate_dst (N := 1) rfl ?_); refine box_event ?hg (N := 1) ?hd (cs := #[.int .i64 a0_0, .int .i64 a0_1]) (t := 34) ?hr ?_; (case hd => rfl); (case hg => rfl); (case hr => first | (go_simp; done) | (go_simp; rfl)); intro gb139 hg w7 hbox hb; have n0_ := Aside0.mk (below_step (by repeat (first | (with_reducible first | exact HB.out | apply below_alloc | apply pw_below_drewN | apply below_drew1) | exact HB.out)) hb); have n1_ := Aside0.mk (hbox); have n2_ := Aside0.mk ((by rw [hg]; exact (below_size (by repeat (first | (with_reducible first | exact HB.out | apply below_alloc | apply pw_below_drewN | apply below_drew1) | exact HB.out))) : w.heap.size ≤ gb139)); have n3_ := Aside0.mk ((by rw [hg]; exact (below_size (by repeat (first | (with_reducible first | exact HB.out | apply below_alloc | apply pw_below_drewN | apply below_drew1) | exact HB.out))) : w.heap.size ≤ gb139)); clear HB; have HB := n0_; have BK139 := n1_; have GW139 := n2_; have GE139 := n3_; clear n0_ n1_ n2_ n3_; clear hb hbox hg; have hcz8_0 : w7.cell? ⟨gb139, 0, none⟩ = some (.int .i64 a0_0) := (blk_cell BK139.out 0).trans rfl; have hcz8_1 : w7.cell? ⟨gb139, 1, none⟩ = some (.int .i64 a0_1) := (blk_cell BK139.out 1).trans rfl; have hfz8_0 := blk_frozen BK139.out 0; have hfz8_1 := blk_frozen BK139.out 1) | ((with_reducible refine gate_callee (f := 46) rfl ?_); refine goesL_ (some 5) rfl rfl Try.func46 (by kernel_rfl) rfl #[.int .i64 a0_0, .int .i64 (-32767), .int .i64 32767] rfl (by (try simp only [List.map_toArray, List.map_cons, List.map_nil]); first | done | rfl | (simp only [List.length_drop, List.length_take]; rfl)) ?_; (with_reducible refine (impl_in.calls a0_0 (-32767) 32767 false _ A2.out).mono ?_); rintro e w' ⟨rfl, ⟨nd, rfl⟩⟩; refine ⟨_, rfl, ?_⟩))
    go_ret
    exact ⟨by first | rfl | (simp [errW_none, errW_some] <;> rfl) | (simp [*, errW_none, errW_some] <;> rfl), by repeat (first | (with_reducible first | exact HB.out | apply below_alloc | apply pw_below_drewN | apply below_drew1 | refine below_set ?_ GE139.out) | exact HB.out)⟩

/-! ### impl_StepSize: function 15 -/
def impl_StepSize.l0 : Nat → Int → Int → Int → Option (Int)
  | 0, _, _, _ => none
  | k + 1, x3, x7, x8 => if x8 < x7 then (impl_StepSize.l0 k (wrap64 ((wrap64 (Int.tdiv (wrap64 (x3 * 11)) 10)) + 1)) x7 (wrap64 (x8 + 1))) else (some x3)
def impl_StepSize.f (k : Nat) (a0 : Int) : Option (Int) := (impl_in.f a0 0 48).bind fun t142 => (if t142 = true then (impl_StepSize.l0 k 7 a0 0) else (some 0))
theorem impl_StepSize.mono_l : ∀ k, (∀ y0 y1 y2, LeO (impl_StepSize.l0 k y0 y1 y2) (impl_StepSize.l0 (k + 1) y0 y1 y2))
  | 0 => fun _ _ _ r h => by simp [impl_StepSize.l0] at h
  | k + 1 => by
    have ih0 := impl_StepSize.mono_l k
    · intro y0 y1 y2
      unfold impl_StepSize.l0
      repeat' first
      | (with_reducible exact ih0 _ _ _)
      | (with_reducible exact LeO.refl _)
      | (with_reducible exact LeO.none _)
      | (with_reducible refine LeO.ite ?_ ?_)
      | (with_reducible refine LeO.bind ?_ (fun _ => ?_))
      | exact ih0 _ _ _
      | exact LeO.none _
      | refine LeO.ite ?_ ?_
      | refine LeO.bind ?_ (fun _ => ?_)
theorem impl_StepSize.mono : ∀ a0 k, LeO (impl_StepSize.f k a0) (impl_StepSize.f (k + 1) a0) := by
  intro a0 k
  have ih0 := impl_StepSize.mono_l k
  unfold impl_StepSize.f
  repeat' first
      | (with_reducible exact ih0 _ _ _)
      | (with_reducible exact LeO.refl _)
      | (with_reducible exact LeO.none _)
      | (with_reducible refine LeO.ite ?_ ?_)
      | (with_reducible refine LeO.bind ?_ (fun _ => ?_))
      | exact ih0 _ _ _
      | exact LeO.none _
      | refine LeO.ite ?_ ?_
      | refine LeO.bind ?_ (fun _ => ?_)
set_option maxHeartbeats 8000000 in
set_option maxRecDepth 100000 in
theorem impl_StepSize.calls (k : Nat) (a0 : Int) (r : Int) (w : World) (h : impl_StepSize.f k a0 = some r) :
    Calls Try.prog 15 #[.int .i64 a0] w fun e w' => e = .returned (.int .i64 r) ∧ Drawn0 w w' := by
  have H : ((impl_in.f a0 0 48).bind fun t142 => (if t142 = true then (impl_StepSize.l0 k 7 a0 0) else (some 0))) = some r := h
  clear h
  replace H := Option.bind_eq_some_iff.mp H
  obtain ⟨t142, A20, H⟩ := H
  replace H : (if t142 = true then (impl_StepSize.l0 k 7 a0 0) else (some 0)) = some r := H
  have A2 := Aside0.mk A20
  clear A20
  by_cases c3 : t142 = true
  · subst c3
    have H1 : (impl_StepSize.l0 k 7 a0 0) = some r := by rw [if_pos rfl] at H; exact H
    clear H
    have H := H1
    clear H1
    have H' := Aside0.mk H
    clear H
    go_enter Try.func15, Try.ntmps15
    go_wp2_with (first | ((with_reducible refine gate_callee (f := 46) rfl ?_); refine goesL_ (some 5) rfl rfl Try.func46 (by kernel_rfl) rfl #[.int .i64 a0, .int .i64 0, .int .i64 48] rfl (by (try simp only [List.map_toArray, List.map_cons, List.map_nil]); first | done | rfl | (simp only [List.length_drop, List.length_take]; rfl)) ?_; (with_reducible refine (impl_in.calls a0 0 48 true _ A2.out).mono ?_); rintro e w' ⟨rfl, ⟨nd, rfl⟩⟩; refine ⟨_, rfl, ?_⟩))
    go_loopg [3, 8] k (fun kq v3 v8 w' => ∃ (x3_1 : Int) (x8_1 : Int), v3 = .int .i64 x3_1 ∧ v8 = .int .i64 x8_1 ∧ Aside0 (impl_StepSize.l0 kq x3_1 a0 x8_1 = some r) ∧ Aside0 (kq ≤ k) ∧ Drawn0 w w')
    case atStart => exact ⟨(7), (0), (by first | rfl | (simp; done) | (simp [*]; done)), (by first | rfl | (simp; done) | (simp [*]; done)), H', ⟨Nat.le_refl _⟩, by repeat (first | exact Drawn0.refl _ | apply Drawn0.step)⟩
    case round =>
      clear H'
      try clear c1
      try clear p2
      try clear c3
      obtain ⟨x3_1, x8_1, rfl, rfl, HA, HK1, ⟨m1, rfl⟩⟩ := hrel
      cases gk with
      | zero => exact absurd HA.out (by simp [impl_StepSize.l0])
      | succ k1 =>
        have H := HA.out
        clear HA
        simp only [impl_StepSize.l0] at H
        by_cases c4 : x8_1 < a0
        · rw [if_pos c4] at H
          have c4b0 : decide (x8_1 < a0) = true := decide_eq_true c4
          clear c4
          have H' := Aside0.mk H
          clear H
          go_wp2
          go_roundg k1
          case measure => have := HK1.out; omega
          case rel => exact ⟨(wrap64 ((wrap64 (Int.tdiv (wrap64 (x3_1 * 11)) 10)) + 1)), (wrap64 (x8_1 + 1)), (by first | rfl | (simp; done) | (simp [*]; done)), (by first | rfl | (simp; done) | (simp [*]; done)), H', ⟨by have := HK1.out; omega⟩, by repeat (first | exact Drawn0.refl _ | apply Drawn0.step)⟩
        · rw [if_neg c4] at H
          have c4b0 : decide (x8_1 < a0) = false := decide_eq_false c4
          clear c4
          obtain rfl := Option.some.inj H
          go_wp2
          go_ret
          exact ⟨by first | rfl | (simp; done) | (simp [*]; done), by repeat (first | exact Drawn0.refl _ | apply Drawn0.step)⟩
  · replace c3 := Bool.eq_false_iff.mpr c3
    subst c3
    have H1 : (some 0) = some r := by rw [if_neg (show ¬ (false = true) by decide)] at H; exact H
    clear H
    have H := H1
    clear H1
    obtain rfl := Option.some.inj H
    go_enter Try.func15, Try.ntmps15
    go_wp2_with (first | ((with_reducible refine gate_callee (f := 46) rfl ?_); refine goesL_ (some 5) rfl rfl Try.func46 (by kernel_rfl) rfl #[.int .i64 a0, .int .i64 0, .int .i64 48] rfl (by (try simp only [List.map_toArray, List.map_cons, List.map_nil]); first | done | rfl | (simp only [List.length_drop, List.length_take]; rfl)) ?_; (with_reducible refine (impl_in.calls a0 0 48 false _ A2.out).mono ?_); rintro e w' ⟨rfl, ⟨nd, rfl⟩⟩; refine ⟨_, rfl, ?_⟩))
    go_ret
    exact ⟨by first | rfl | (simp; done) | (simp [*]; done), by repeat (first | exact Drawn0.refl _ | apply Drawn0.step)⟩

/-! ### impl_nearer: function 65 -/
def impl_nearer.f (a0 : Int) (a1 : Int) (a2 : Int) : Option (Int) := some (mn (mx a0 a1) a2)
set_option maxHeartbeats 8000000 in
set_option maxRecDepth 100000 in
theorem impl_nearer.calls (a0 : Int) (a1 : Int) (a2 : Int) (r : Int) (w : World) (h : impl_nearer.f a0 a1 a2 = some r) :
    Calls Try.prog 65 #[.int .i64 a0, .int .i64 a1, .int .i64 a2] w fun e w' => e = .returned (.int .i64 r) ∧ Below w.heap.size w w' := by
  have HB := Aside0.mk (Below.refl w.heap.size w)
  have H : (some (mn (mx a0 a1) a2)) = some r := h
  clear h
  obtain ⟨ji4, hji4⟩ : ∃ j_ : Int, (mx a0 a1) = j_ := ⟨_, rfl⟩
  replace H : (some (mn (ji4) a2)) = some r := by first | (rw [hji4] at H; exact H) | (simp only [hji4] at H ⊢; exact H)
  have hji4_ : (if a0 < a1 then a1 else a0) = ji4 := hji4
  obtain ⟨ji5, hji5⟩ : ∃ j_ : Int, (mn (ji4) a2) = j_ := ⟨_, rfl⟩
  replace H : (some ji5) = some r := by first | (rw [hji5] at H; exact H) | (simp only [hji5] at H ⊢; exact H)
  have hji5_ : (if a2 < (ji4) then a2 else (ji4)) = ji5 := hji5
  obtain rfl := Option.some.inj H
  go_enter Try.func65, Try.ntmps65
  go_wp2
  go_ret
  exact ⟨by first | rfl | (simp [errW_none, errW_some] <;> rfl) | (simp only [← hji4, ← hji5]; first | rfl | (simp [errW_none, errW_some] <;> rfl)) | (simp [*, errW_none, errW_some] <;> rfl), by repeat (first | (with_reducible first | exact HB.out | apply below_alloc | apply pw_below_drewN | apply below_drew1) | exact HB.out)⟩

end Go.Proofs.Yteaelhdcmnhcbaa.PFnExactOfFrame
