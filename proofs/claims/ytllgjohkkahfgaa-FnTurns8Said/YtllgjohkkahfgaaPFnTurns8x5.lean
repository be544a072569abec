-- laid by a program of this session (wip/lay/lay.py); Lean checks it
import Derived.Test.YtllgjohkkahfgaaVFnTurns8Short
import Derived.Test.YtllgjohkkahfgaaPFnTurns8x0
namespace Go.Proofs.Ytllgjohkkahfgaa.PFnTurns8
-- squashed
open Go.RowKit Go.Proofs.YtllgjohkkahfgaaW.PrintWords Go.Proofs.YtllgjohkkahfgaaW.PrintLast Go.Proofs.YtllgjohkkahfgaaW.PrintMore Go.Proofs.Ytllgjohkkahfgaa.Short
attribute [local go_sem] max2_int min2_int max_two min_two max_three min_three max_four min_four   -- for this text's walks alone
set_option linter.unusedVariables false
set_option linter.unusedSimpArgs false

/-! ### impl_Agent: function 77 -/
def impl_Agent.f (l0 : List S41) : Option (List S41) := if l0.length < 4398046511104 then some l0 else none
set_option maxHeartbeats 8000000 in
set_option maxRecDepth 100000 in
theorem impl_Agent.calls (A0 : Option Addr) (c0 : Nat) (l0 : List S41) (r : List S41) (w : World) (hr0 : Kd.C k41 w A0 l0.length l0) (hc0 : l0.length ≤ c0) (h : impl_Agent.f l0 = some r) :
  Calls Try.prog 77 #[.slice A0 l0.length c0] w fun e w' => ∃ v0_ : Value, e = .returned (v0_) ∧ Kd.R k41 41 w' w.heap.size (fun _ => True) v0_ r ∧ Below w.heap.size w w' := by
 by_cases hl : l0.length < 4398046511104
 case neg => rw [impl_Agent.f, if_neg hl] at h; cases h
 rw [impl_Agent.f, if_pos hl] at h
 obtain rfl := Option.some.inj h
 clear h
 have qT : ∀ (w : World) (a : Option Addr) (n c n' c' : Nat), (binOp .eql 28 (.slice a n c) (.slice none n' c')).run Try.prog w = .ok (.bool a.isNone) w := fun w a n c n' c' => Lib.run_eql_slice_nil w _ _ a n c n' c' Try.underlying28
 have HR := Aside0.mk hr0
 have HL := Aside0.mk hl
 cases A0 with
 | none =>
  have e0 : l0 = [] := by
   cases l0 with
   | nil => rfl
   | cons x t => obtain ⟨ad, _, e, _⟩ := Kd.C_get hr0 x 0 (by omega) (by simp only [List.length_cons]; omega); cases e
  subst e0
  clear hr0 hc0 hl
  go_enter Try.func77, Try.ntmps77
  go_wp2
  go_ret
  exact ⟨_, rfl, Kd.R_nil k41 41 _ _ _, Below.refl _ _⟩
 | some ad =>
  clear hr0 hc0 hl
  have HB := Aside0.mk (Below.refl w.heap.size w)
  go_enter Try.func77, Try.ntmps77
  go_wp2_with (first | ((with_reducible refine gate_dst (N := 5) rfl ?_); refine Kd.R_lit k41 _ 41 ?hg (N := 5) ?hd (xs := ([] : List S41)) (inner := []) (ok := fun _ => True) (okp := fun _ => True) ?hr ?hp (fun _ hk => hk) trivial (Below.refl _ _) (Nat.le_refl _) (by simp) ?_; (case hd => rfl); (case hg => rfl); (case hr => first | (go_simp; done) | (go_simp; rfl)); (case hp => exact (Reps.none _ _)); intro v5 w5 ho hb hg_ hnew_; have n0_ := Aside0.mk (Kd.R_lower ho (below_size HB.out)); have n1_ := Aside0.mk (below_step HB.out hb); clear HB; have HB := n1_; have HO := n0_; clear n0_ n1_ hg_ hnew_ hb ho ) | ((with_reducible refine gate_builtin (b := .append) (xs := #[.tmp 5, .tmp 6]) rfl ?_); refine Kd.R_append_rows k41 (w0 := w) w.heap.size rfl (.tmp 5) (.tmp 6) 28 41 (.agg #[(.int .i64 0), (.int .i64 0), (.int .i64 0)]) 24 rfl Try.underlying28 info41 rfl (by decide) (by omega) v5 [] l0 _ _ _ (fun _ => True) (fun _ => False) rfl rfl ?aO ?aR (fun _ _ h => h) (fun _ h => h.elim) ?aF ?aB ?aS ?aL ?_; (case aR => repeat (first | exact (Kd.C_below HR.out HB.out) | (with_reducible refine Kd.C_alloc ?_ _) | (with_reducible refine Kd.C_drewN ?_ _) | (with_reducible refine Kd.C_drew ?_))); (case aB => exact HB.out); (case aF => exact (fun _ _ => trivial)); (case aO => exact HO.out); (case aS => exact (below_size HB.out)); (case aL => have := HL.out; simp only [List.length_nil]; omega); intro v7 w7 ho hb hg hat; have n0_ := Aside0.mk hb; have n1_ := Aside0.mk ho; clear HB HO; have HB := n0_; have HO := n1_; clear n0_ n1_ ho hb hg hat))
  go_ret
  exact ⟨_, rfl, by simpa using HO.out, HB.out⟩

/-! ### impl_Waiting: function 78 -/
def impl_Waiting.f (l0 : List S70) : Option (List S70) := if l0.length < 4398046511104 then some l0 else none
set_option maxHeartbeats 8000000 in
set_option maxRecDepth 100000 in
theorem impl_Waiting.calls (A0 : Option Addr) (c0 : Nat) (l0 : List S70) (r : List S70) (w : World) (hr0 : Kd.C k70 w A0 l0.length l0) (hc0 : l0.length ≤ c0) (h : impl_Waiting.f l0 = some r) :
  Calls Try.prog 78 #[.slice A0 l0.length c0] w fun e w' => ∃ v0_ : Value, e = .returned (v0_) ∧ Kd.R k70 70 w' w.heap.size (fun _ => True) v0_ r ∧ Below w.heap.size w w' := by
 by_cases hl : l0.length < 4398046511104
 case neg => rw [impl_Waiting.f, if_neg hl] at h; cases h
 rw [impl_Waiting.f, if_pos hl] at h
 obtain rfl := Option.some.inj h
 clear h
 have qT : ∀ (w : World) (a : Option Addr) (n c n' c' : Nat), (binOp .eql 29 (.slice a n c) (.slice none n' c')).run Try.prog w = .ok (.bool a.isNone) w := fun w a n c n' c' => Lib.run_eql_slice_nil w _ _ a n c n' c' Try.underlying29
 have HR := Aside0.mk hr0
 have HL := Aside0.mk hl
 cases A0 with
 | none =>
  have e0 : l0 = [] := by
   cases l0 with
   | nil => rfl
   | cons x t => obtain ⟨ad, _, e, _⟩ := Kd.C_get hr0 x 0 (by omega) (by simp only [List.length_cons]; omega); cases e
  subst e0
  clear hr0 hc0 hl
  go_enter Try.func78, Try.ntmps78
  go_wp2
  go_ret
  exact ⟨_, rfl, Kd.R_nil k70 70 _ _ _, Below.refl _ _⟩
 | some ad =>
  clear hr0 hc0 hl
  have HB := Aside0.mk (Below.refl w.heap.size w)
  go_enter Try.func78, Try.ntmps78
  go_wp2_with (first | ((with_reducible refine gate_dst (N := 5) rfl ?_); refine Kd.R_lit k70 _ 70 ?hg (N := 5) ?hd (xs := ([] : List S70)) (inner := []) (ok := fun _ => True) (okp := fun _ => True) ?hr ?hp (fun _ hk => hk) trivial (Below.refl _ _) (Nat.le_refl _) (by simp) ?_; (case hd => rfl); (case hg => rfl); (case hr => first | (go_simp; done) | (go_simp; rfl)); (case hp => exact (Reps.none _ _)); intro v5 w5 ho hb hg_ hnew_; have n0_ := Aside0.mk (Kd.R_lower ho (below_size HB.out)); have n1_ := Aside0.mk (below_step HB.out hb); clear HB; have HB := n1_; have HO := n0_; clear n0_ n1_ hg_ hnew_ hb ho ) | ((with_reducible refine gate_builtin (b := .append) (xs := #[.tmp 5, .tmp 6]) rfl ?_); refine Kd.R_append_rows k70 (w0 := w) w.heap.size rfl (.tmp 5) (.tmp 6) 29 70 (.agg #[(.int .i64 0), (.int .i64 0), (.int .i64 0), (.int .i64 0)]) 32 rfl Try.underlying29 info70 rfl (by decide) (by omega) v5 [] l0 _ _ _ (fun _ => True) (fun _ => False) rfl rfl ?aO ?aR (fun _ _ h => h) (fun _ h => h.elim) ?aF ?aB ?aS ?aL ?_; (case aR => repeat (first | exact (Kd.C_below HR.out HB.out) | (with_reducible refine Kd.C_alloc ?_ _) | (with_reducible refine Kd.C_drewN ?_ _) | (with_reducible refine Kd.C_drew ?_))); (case aB => exact HB.out); (case aF => exact (fun _ _ => trivial)); (case aO => exact HO.out); (case aS => exact (below_size HB.out)); (case aL => have := HL.out; simp only [List.length_nil]; omega); intro v7 w7 ho hb hg hat; have n0_ := Aside0.mk hb; have n1_ := Aside0.mk ho; clear HB HO; have HB := n0_; have HO := n1_; clear n0_ n1_ ho hb hg hat))
  go_ret
  exact ⟨_, rfl, by simpa using HO.out, HB.out⟩

/-! ### impl_ownDesk: function 48 -/
def impl_ownDesk.f (a0_0 : Int) (l0_1 : List (S41)) (l0_2 : List (S70)) (a0_3 : Int) : Option (Int × (List (S41)) × (List (S70)) × Int) := (impl_Agent.f l0_1).bind fun t155 => ((impl_Waiting.f l0_2).bind fun t158 => (some (a0_0, t155, t158, a0_3)))
def impl_ownDesk.T1 : Bool × List (List Nat × List Nat) := (true, [([], []), ([0], [0]), ([1], [1]), ([], []), ([3], [3]), ([4, 2], [4]), ([0, 1, 2, 3, 4], []), ([6, 2, 5, 0, 1, 2, 3, 4], [2, 6]), ([0, 1, 2, 3, 4, 5, 6, 7], []), ([8, 5, 7, 0, 1, 2, 3, 4, 5, 6, 7], [5, 8])])
def impl_ownDesk.B1 : List Nat := [0, 1, 3, 0, 8, 31, 31, 127, 255, 511]
theorem impl_ownDesk.tab1 : rtab .any (opsOf Try.f48 1) = impl_ownDesk.T1 := by kernel_rfl
theorem impl_ownDesk.bits1 : waitsOk impl_ownDesk.T1.2 impl_ownDesk.B1 = true := by kernel_rfl
set_option maxHeartbeats 8000000 in
set_option maxRecDepth 100000 in
theorem impl_ownDesk.calls (a0_0 : Int) (A0_1 : Option Addr) (c0_1 : Nat) (l0_1 : List (S41)) (A0_2 : Option Addr) (c0_2 : Nat) (l0_2 : List (S70)) (a0_3 : Int) (r1 : Int) (r2 : List (S41)) (r3 : List (S70)) (r4 : Int) (w : World) (hr0_1 : Kd.C k41 w A0_1 l0_1.length l0_1) (hc0_1 : l0_1.length ≤ c0_1) (hr0_2 : Kd.C k70 w A0_2 l0_2.length l0_2) (hc0_2 : l0_2.length ≤ c0_2) (h : impl_ownDesk.f a0_0 l0_1 l0_2 a0_3 = some (r1, r2, r3, r4)) :
  Calls Try.prog 48 #[.agg #[.int .i64 a0_0, .slice A0_1 l0_1.length c0_1, .slice A0_2 l0_2.length c0_2, .int .i64 a0_3]] w fun e w' => ∃ v1_ v2_ : Value, e = .returned (.agg #[.int .i64 r1, v1_, v2_, .int .i64 r4]) ∧ Kd.R k41 41 w' w.heap.size (fun _ => True) v1_ r2 ∧ Kd.R k70 70 w' w.heap.size (fun _ => True) v2_ r3 ∧ Below w.heap.size w w' := by
 have hu31 := Try.underlying31
 have HR0_1 := Aside0.mk hr0_1
 have HC0_1 := Aside0.mk hc0_1
 clear hr0_1 hc0_1
 have HR0_2 := Aside0.mk hr0_2
 have HC0_2 := Aside0.mk hc0_2
 clear hr0_2 hc0_2
 have HB := Aside0.mk (Below.refl w.heap.size w)
 have H : ((impl_Agent.f l0_1).bind fun t155 => ((impl_Waiting.f l0_2).bind fun t158 => (some (a0_0, t155, t158, a0_3)))) = some (r1, r2, r3, r4) := h
 clear h
 replace H := Option.bind_eq_some_iff.mp H
 obtain ⟨t155, A20, H⟩ := H
 replace H : ((impl_Waiting.f l0_2).bind fun t158 => (some (a0_0, t155, t158, a0_3))) = some (r1, r2, r3, r4) := H
 have A2 := Aside0.mk A20
 clear A20
 replace H := Option.bind_eq_some_iff.mp H
 obtain ⟨t158, A30, H⟩ := H
 replace H : (some (a0_0, t155, t158, a0_3)) = some (r1, r2, r3, r4) := H
 have A3 := Aside0.mk A30
 clear A30
 simp only [Option.some.injEq, Prod.mk.injEq] at H
 obtain ⟨rfl, rfl, rfl, rfl⟩ := H
 go_enter Try.func48, Try.ntmps48
 try go_wp2_with (first | ((with_reducible refine gate_dst (N := 1) rfl ?_); refine box_event ?hg (N := 1) ?hd (cs := #[.int .i64 a0_0, .slice A0_1 l0_1.length c0_1, .slice A0_2 l0_2.length c0_2, .int .i64 a0_3]) (t := 31) ?hr ?_; (case hd => rfl); (case hg => rfl); (case hr => first | (go_simp; done) | (go_simp; rfl)); intro gb153 hg w4 hbox hb; have n0_ := Aside0.mk (below_step belowNow hb); have n1_ := Aside0.mk (hbox); have n2_ := Aside0.mk ((by rw [hg]; exact (below_size belowNow) : w.heap.size ≤ gb153)); have n3_ := n2_; clear HB; have HB := n0_; have BK153 := n1_; have GW153 := n2_; have GE153 := n3_; clear n0_ n1_ n2_ n3_; clear hb hbox hg) | ((with_reducible refine gate_dst (N := 2) rfl ?_); refine box_event ?hg (N := 2) ?hd (cs := #[.int .i64 0, .slice none 0 0, .slice none 0 0, .int .i64 0]) (t := 31) ?hr ?_; (case hd => rfl); (case hg => rfl); (case hr => first | (go_simp; done) | (go_simp; rfl)); intro gb154 hg w5 hbox hb; have n0_ := Aside0.mk (blkStep (g := gb153) hb); have n1_ := Aside0.mk (below_step belowNow hb); have n2_ := Aside0.mk (hbox); have n3_ := Aside0.mk ((by rw [hg]; exact (below_size belowNow) : w.heap.size ≤ gb154)); have n4_ := n3_; have n5_ := Aside0.mk ((by rw [hg]; exact Nat.ne_of_lt (blkLt (g := gb153)) : gb153 ≠ gb154)); have n6_ := Aside0.mk ((by rw [hg]; exact Nat.ne_of_gt (blkLt (g := gb153)) : gb154 ≠ gb153)); clear BK153; clear HB; have BK153 := n0_; have HB := n1_; have BK154 := n2_; have GW154 := n3_; have GE154 := n4_; have NB153_154 := n5_; have NB154_153 := n6_; clear n0_ n1_ n2_ n3_ n4_ n5_ n6_; clear hb hbox hg))
 have n0_ := Aside0.mk (blk_drew BK153.out)
 have n1_ := Aside0.mk (blk_drew BK154.out)
 have n2_ := Aside0.mk (below_drew1 HB.out)
 clear BK153
 clear BK154
 clear HB
 have BK153 := n0_
 have BK154 := n1_
 have HB := n2_
 clear n0_ n1_ n2_
 refine start_ (n := 10) (S := fun w' => w'.cell? ⟨gb153, 0, none⟩ = some (.int .i64 a0_0) ∧ w'.cell? ⟨gb153, 1, none⟩ = some (.slice A0_1 l0_1.length c0_1) ∧ w'.cell? ⟨gb153, 2, none⟩ = some (.slice A0_2 l0_2.length c0_2) ∧ w'.cell? ⟨gb153, 3, none⟩ = some (.int .i64 a0_3)) (ds := [7, 9]) #[false, false, false, false, false, false, false, false, false, false] (by kernel_rfl) rfl rfl ⟨(blk_cell BK153.out 0).trans rfl, (blk_cell BK153.out 1).trans rfl, (blk_cell BK153.out 2).trans rfl, (blk_cell BK153.out 3).trans rfl⟩ (fun hHeld => ?_); refine with_tabW impl_ownDesk.tab1 impl_ownDesk.bits1 (fun HT_ HW_ => ?_)
 generalize w5.drew = w6 at BK153 BK154 HB hHeld ⊢
 refine pure_ (i := 0) (N := some 3) (v := ?_) (a' := ?_) #[true, false, false, false, false, false, false, false, false, false] rfl rfl (any_of HT_.out (by kernel_rfl)) (fun _ _ _ h => h) (Or.inl ⟨by rfl, ?_⟩) ?_ ?_
 rotate_left
 ·intro w'
  go_simp
  with_reducible rfl
 rotate_left
 ·simp only [Act.put, List.setIfInBounds_toArray, List.set_cons_zero, List.set_cons_succ, i64_w, i32_w]
  rfl
 refine pure_ (i := 3) (N := some 6) (v := ?_) (a' := ?_) #[true, false, false, true, false, false, false, false, false, false] rfl rfl (any_of HT_.out (by kernel_rfl)) (fun _ _ _ h => h) (Or.inl ⟨by rfl, ?_⟩) ?_ ?_
 rotate_left
 ·intro w'
  go_simp
  with_reducible rfl
 rotate_left
 ·simp only [Act.put, List.setIfInBounds_toArray, List.set_cons_zero, List.set_cons_succ, i64_w, i32_w]
  rfl
 refine take_ (i := 1) (N := some 4) (v := ?_) (a' := ?_) #[true, true, false, true, false, false, false, false, false, false] rfl rfl (take_ofW HT_.out HW_.out (by kernel_rfl)) (fun _ _ _ h => h) (Or.inl ⟨by rfl, ?_⟩) hHeld ?_ ?_
 rotate_left
 ·rintro w' ⟨s0, s1, s2, s3⟩
  go_simp
  with_reducible rfl
 rotate_left
 ·simp only [Act.put, List.setIfInBounds_toArray, List.set_cons_zero, List.set_cons_succ, i64_w, i32_w]
  rfl
 refine take_ (i := 4) (N := some 7) (v := ?_) (a' := ?_) #[true, true, false, true, true, false, false, false, false, false] rfl rfl (take_ofW HT_.out HW_.out (by kernel_rfl)) (fun _ _ _ h => h) (Or.inl ⟨by rfl, ?_⟩) hHeld ?_ ?_
 rotate_left
 ·rintro w' ⟨s0, s1, s2, s3⟩
  go_simp
  with_reducible rfl
 rotate_left
 ·simp only [Act.put, List.setIfInBounds_toArray, List.set_cons_zero, List.set_cons_succ, i64_w, i32_w]
  rfl
 refine one_ (i := 2) (N := some 5) #[true, true, true, true, true, false, false, false, false, false] rfl rfl (one_of HT_.out (by kernel_rfl)) (by decide) (fun K hK => ?_)
 refine goes_ Try.func77 (by kernel_rfl) rfl #[.slice A0_1 l0_1.length c0_1] (by rfl) rfl rfl (by (try simp only [List.map_toArray, List.map_cons, List.map_nil]); first | done | rfl | (simp only [List.length_drop, List.length_take]; rfl)) ?_
 with_reducible refine (impl_Agent.calls _ _ l0_1 t155 _ ?side1 ?side2 A2.out).mono ?_
 (case side1 => repeat (first | exact (Kd.C_below HR0_1.out HB.out) | (with_reducible refine Kd.C_alloc ?_ _) | (with_reducible refine Kd.C_drewN ?_ _) | (with_reducible refine Kd.C_drew ?_)))
 (case side2 => exact HC0_1.out)
 rintro e w7 ⟨v156, rfl, ho0, hb⟩
 refine ⟨_, rfl, ?_⟩
 have n0_ := Aside0.mk (Kd.R_lower ho0 (below_size belowNow))
 have n1_ := Aside0.mk (blkStep (g := gb153) hb)
 have n2_ := Aside0.mk (blkStep (g := gb154) hb)
 have n3_ := Aside0.mk (below_step belowNow hb)
 clear BK153
 clear BK154
 clear HB
 have HO157 := n0_
 have BK153 := n1_
 have BK154 := n2_
 have HB := n3_
 clear n0_ n1_ n2_ n3_
 (try clear hb)
 (try clear hb2)
 (try clear hk)
 (try clear hi)
 (try clear ho0)
 refine hK.out _ _ ⟨(blk_cell BK153.out 0).trans rfl, (blk_cell BK153.out 1).trans rfl, (blk_cell BK153.out 2).trans rfl, (blk_cell BK153.out 3).trans rfl⟩ (fun hHeld => ?_)
 clear hK K
 refine norm_ (a' := ?_) ?_ ?_
 rotate_left
 ·show Act.put _ (some 5) _ = _
  simp only [Act.put, List.setIfInBounds_toArray, List.set_cons_zero, List.set_cons_succ, i64_w, i32_w]
  rfl
 refine pure_ (i := 6) (N := some 9) (v := ?_) (a' := ?_) #[true, true, true, true, true, false, true, false, false, false] rfl rfl (any_of HT_.out (by kernel_rfl)) (fun _ _ _ h => h) (Or.inl ⟨by rfl, ?_⟩) ?_ ?_
 rotate_left
 ·intro w'
  go_simp
  with_reducible rfl
 rotate_left
 ·simp only [Act.put, List.setIfInBounds_toArray, List.set_cons_zero, List.set_cons_succ, i64_w, i32_w]
  rfl
 refine one_ (i := 5) (N := some 8) #[true, true, true, true, true, true, true, false, false, false] rfl rfl (one_of HT_.out (by kernel_rfl)) (by decide) (fun K hK => ?_)
 refine goes_ Try.func78 (by kernel_rfl) rfl #[.slice A0_2 l0_2.length c0_2] (by rfl) rfl rfl (by (try simp only [List.map_toArray, List.map_cons, List.map_nil]); first | done | rfl | (simp only [List.length_drop, List.length_take]; rfl)) ?_
 with_reducible refine (impl_Waiting.calls _ _ l0_2 t158 _ ?side1 ?side2 A3.out).mono ?_
 (case side1 => repeat (first | exact (Kd.C_below HR0_2.out HB.out) | (with_reducible refine Kd.C_alloc ?_ _) | (with_reducible refine Kd.C_drewN ?_ _) | (with_reducible refine Kd.C_drew ?_)))
 (case side2 => exact HC0_2.out)
 rintro e w8 ⟨v159, rfl, ho0, hb⟩
 refine ⟨_, rfl, ?_⟩
 have n0_ := Aside0.mk (Kd.R_below (by (with_reducible repeat (first | apply Kd.R_alloc | apply Kd.R_drewN | apply Kd.R_drew)); exact HO157.out) hb)
 have n1_ := Aside0.mk (Kd.R_lower ho0 (below_size belowNow))
 have n2_ := Aside0.mk (blkStep (g := gb153) hb)
 have n3_ := Aside0.mk (blkStep (g := gb154) hb)
 have n4_ := Aside0.mk (below_step belowNow hb)
 clear HO157
 clear BK153
 clear BK154
 clear HB
 have HO157 := n0_
 have HO160 := n1_
 have BK153 := n2_
 have BK154 := n3_
 have HB := n4_
 clear n0_ n1_ n2_ n3_ n4_
 (try clear hb)
 (try clear hb2)
 (try clear hk)
 (try clear hi)
 (try clear ho0)
 obtain ⟨Ao9, co9, eo9⟩ := Kd.R_slice HO157.out
 (first | subst eo9 | (injection eo9 with f1_ f2_ f3_; have f4_ := f1_.symm; have f5_ := f3_.symm; clear f1_ f2_ f3_; subst f4_; subst f5_))
 obtain ⟨Ao11, co11, eo11⟩ := Kd.R_slice HO160.out
 (first | subst eo11 | (injection eo11 with f1_ f2_ f3_; have f4_ := f1_.symm; have f5_ := f3_.symm; clear f1_ f2_ f3_; subst f4_; subst f5_))
 refine hK.out _ _ ⟨(blk_cell BK153.out 0).trans rfl, (blk_cell BK153.out 1).trans rfl, (blk_cell BK153.out 2).trans rfl, (blk_cell BK153.out 3).trans rfl⟩ (fun hHeld => ?_)
 clear hK K
 refine norm_ (a' := ?_) ?_ ?_
 rotate_left
 ·show Act.put _ (some 8) _ = _
  simp only [Act.put, List.setIfInBounds_toArray, List.set_cons_zero, List.set_cons_succ, i64_w, i32_w]
  rfl
 refine last_ (i := 7) (N := none) #[true, true, true, true, true, true, true, true, false, false] rfl rfl (one_of HT_.out (by kernel_rfl)) (by decide) (fun K hK => ?_)
 have hs10 : w8.cell? ⟨gb153, 1, none⟩ = some (.slice A0_1 l0_1.length c0_1) := (blk_cell BK153.out 1).trans rfl
 have hfs10 := blk_frozen BK153.out 1
 have hns10_1 := NB154_153.out
 have hms10_1 := NB153_154.out
 refine skip_ (w1 := ?_) (by rfl) rfl ?_ ?_
 rotate_left
 ·go_simp
  rfl
 refine hK.out _ _ ?_
 clear hK K
 refine pure_ (i := 8) (N := some 10) (v := ?_) (a' := ?_) #[true, true, true, true, true, true, true, true, true, false] rfl rfl (any_of HT_.out (by kernel_rfl)) (fun _ _ _ h => h) (Or.inl ⟨by rfl, ?_⟩) ?_ ?_
 rotate_left
 ·intro w'
  go_simp
  with_reducible rfl
 rotate_left
 ·simp only [Act.put, List.setIfInBounds_toArray, List.set_cons_zero, List.set_cons_succ, i64_w, i32_w]
  rfl
 refine last_ (i := 9) (N := none) #[true, true, true, true, true, true, true, true, true, true] rfl rfl (one_of HT_.out (by kernel_rfl)) (by decide) (fun K hK => ?_)
 have hs12 : w8.cell? ⟨gb153, 2, none⟩ = some (.slice A0_2 l0_2.length c0_2) := (blk_cell BK153.out 2).trans rfl
 have hfs12 := blk_frozen BK153.out 2
 have hns12_1 := NB154_153.out
 have hms12_1 := NB153_154.out
 refine skip_ (w1 := ?_) (by rfl) rfl ?_ ?_
 rotate_left
 ·go_simp
  rfl
 refine hK.out _ _ ?_
 clear hK K
 refine done_ (done_of HT_.out (by kernel_rfl)) ?_
 have hnb13 := NB153_154.out
 have hnc13 := NB154_153.out
 have hcz14_0 : w8.cell? ⟨gb153, 0, none⟩ = some (.int .i64 a0_0) := (blk_cell BK153.out 0).trans rfl
 have hcz14_1 : w8.cell? ⟨gb153, 1, none⟩ = some (.slice A0_1 l0_1.length c0_1) := (blk_cell BK153.out 1).trans rfl
 have hcz14_2 : w8.cell? ⟨gb153, 2, none⟩ = some (.slice A0_2 l0_2.length c0_2) := (blk_cell BK153.out 2).trans rfl
 have hcz14_3 : w8.cell? ⟨gb153, 3, none⟩ = some (.int .i64 a0_3) := (blk_cell BK153.out 3).trans rfl
 have hfz14_0 := blk_frozen BK153.out 0
 have hfz14_1 := blk_frozen BK153.out 1
 have hfz14_2 := blk_frozen BK153.out 2
 have hfz14_3 := blk_frozen BK153.out 3
 have hcz15_0 : w8.cell? ⟨gb154, 0, none⟩ = some (.int .i64 0) := (blk_cell BK154.out 0).trans rfl
 have hcz15_1 : w8.cell? ⟨gb154, 1, none⟩ = some (.slice none 0 0) := (blk_cell BK154.out 1).trans rfl
 have hcz15_2 : w8.cell? ⟨gb154, 2, none⟩ = some (.slice none 0 0) := (blk_cell BK154.out 2).trans rfl
 have hcz15_3 : w8.cell? ⟨gb154, 3, none⟩ = some (.int .i64 0) := (blk_cell BK154.out 3).trans rfl
 have hfz15_0 := blk_frozen BK154.out 0
 have hfz15_1 := blk_frozen BK154.out 1
 have hfz15_2 := blk_frozen BK154.out 2
 have hfz15_3 := blk_frozen BK154.out 3
 try go_wp2
 refine bodyPost_ret (results_cell_row rfl _ _ gb154 31 #[.int .i64 a0_0, .slice Ao9 t155.length co9, .slice Ao11 t158.length co11, .int .i64 a0_3] (0, 0) _ rfl (by (with_reducible repeat (first | refine blk_drewN ?_ _ | refine blk_drew ?_ | refine blk_alloc ?_ _)); refine blk_put (cs := #[.int .i64 a0_0, .slice Ao9 t155.length co9, .slice Ao11 t158.length co11, .int .i64 0]) ?_ 3 _ rfl; (with_reducible repeat (first | refine blk_drewN ?_ _ | refine blk_drew ?_ | refine blk_alloc ?_ _)); refine blk_put (cs := #[.int .i64 a0_0, .slice Ao9 t155.length co9, .slice none 0 0, .int .i64 0]) ?_ 2 _ rfl; (with_reducible repeat (first | refine blk_drewN ?_ _ | refine blk_drew ?_ | refine blk_alloc ?_ _)); refine blk_put (cs := #[.int .i64 a0_0, .slice none 0 0, .slice none 0 0, .int .i64 0]) ?_ 1 _ rfl; (with_reducible repeat (first | refine blk_drewN ?_ _ | refine blk_drew ?_ | refine blk_alloc ?_ _)); refine blk_put (cs := #[.int .i64 0, .slice none 0 0, .slice none 0 0, .int .i64 0]) ?_ 0 _ rfl; (with_reducible repeat (first | refine blk_drewN ?_ _ | refine blk_drew ?_ | refine blk_alloc ?_ _)); refine blk_far ?_ NB154_153.out _; (with_reducible repeat (first | refine blk_drewN ?_ _ | refine blk_drew ?_ | refine blk_alloc ?_ _)); refine blk_far ?_ NB154_153.out _; (with_reducible repeat (first | refine blk_drewN ?_ _ | refine blk_drew ?_ | refine blk_alloc ?_ _)); exact BK154.out) Try.underlying31 rfl (by kernel_rfl)) rfl ?_
 exact ⟨_, _, by first | rfl | (simp [errW_none, errW_some] <;> rfl) | (simp [*, errW_none, errW_some] <;> rfl), by (with_reducible repeat (first | apply Kd.R_alloc | apply Kd.R_drewN | apply Kd.R_drew)); exact Kd.R_mono (Kd.R_far (p := ⟨gb154, 3, none⟩) (Kd.R_far (p := ⟨gb154, 2, none⟩) (Kd.R_far (p := ⟨gb154, 1, none⟩) (Kd.R_far (p := ⟨gb154, 0, none⟩) (Kd.R_far (p := ⟨gb153, 2, none⟩) (Kd.R_far (p := ⟨gb153, 1, none⟩) (Kd.R_types (Kd.R_types HO157.out BK153.out (by decide)) BK154.out (by decide)) (fun _ hk => hk.1.2) (.slice Ao9 t155.length co9)) (fun _ hk => hk.1.2) (.slice Ao11 t158.length co11)) (fun _ hk => hk.2) (.int .i64 a0_0)) (fun _ hk => hk.2) (.slice Ao9 t155.length co9)) (fun _ hk => hk.2) (.slice Ao11 t158.length co11)) (fun _ hk => hk.2) (.int .i64 a0_3)) (fun _ hk => trivial), by (with_reducible repeat (first | apply Kd.R_alloc | apply Kd.R_drewN | apply Kd.R_drew)); exact Kd.R_mono (Kd.R_far (p := ⟨gb154, 3, none⟩) (Kd.R_far (p := ⟨gb154, 2, none⟩) (Kd.R_far (p := ⟨gb154, 1, none⟩) (Kd.R_far (p := ⟨gb154, 0, none⟩) (Kd.R_far (p := ⟨gb153, 2, none⟩) (Kd.R_far (p := ⟨gb153, 1, none⟩) (Kd.R_types (Kd.R_types HO160.out BK153.out (by decide)) BK154.out (by decide)) (fun _ hk => hk.1.2) (.slice Ao9 t155.length co9)) (fun _ hk => hk.1.2) (.slice Ao11 t158.length co11)) (fun _ hk => hk.2) (.int .i64 a0_0)) (fun _ hk => hk.2) (.slice Ao9 t155.length co9)) (fun _ hk => hk.2) (.slice Ao11 t158.length co11)) (fun _ hk => hk.2) (.int .i64 a0_3)) (fun _ hk => trivial), belowNow⟩

/-! ### impl_DoDesk_2: function 51 -/
def impl_DoDesk_2.p (b0 b1 b2 b3 b4 : Int) (x : S70) : Bool := decide (x.f0 = b2)
set_option maxHeartbeats 8000000 in
set_option maxRecDepth 100000 in
theorem impl_DoDesk_2.lit (b0 b1 b2 b3 b4 : Int) (x : S70) (w : World) {g3 : Nat} (hg3_0 : w.cell? ⟨g3, 0, none⟩ = some (.int .i64 b0)) (hg3_1 : w.cell? ⟨g3, 1, none⟩ = some (.int .i64 b1)) (hg3_2 : w.cell? ⟨g3, 2, none⟩ = some (.int .i64 b2)) (hg3_3 : w.cell? ⟨g3, 3, none⟩ = some (.int .i64 b3)) (hg3_4 : w.cell? ⟨g3, 4, none⟩ = some (.int .i64 b4)) :
  Calls Try.prog 51 #[.agg #[.int .i64 x.f0, .int .i64 x.f1, .int .i64 x.f2, .int .i64 x.f3], .pointer (some ⟨g3, 0, none⟩)] w fun e w' => e = .returned (.bool (impl_DoDesk_2.p b0 b1 b2 b3 b4 x)) ∧ Below w.heap.size w w' := by
 have hu70 := Try.underlying70
 have hu47 := Try.underlying47
 have HB := Aside0.mk (Below.refl w.heap.size w)
 have H0 := Aside0.mk hg3_0
 have H1 := Aside0.mk hg3_1
 have H2 := Aside0.mk hg3_2
 have H3 := Aside0.mk hg3_3
 have H4 := Aside0.mk hg3_4
 clear hg3_0 hg3_1 hg3_2 hg3_3 hg3_4
 go_enter Try.func51, Try.ntmps51
 go_wp2_with (first | ((with_reducible refine gate_dst (N := 2) rfl ?_); refine box_event ?hg (N := 2) ?hd (cs := #[.int .i64 x.f0, .int .i64 x.f1, .int .i64 x.f2, .int .i64 x.f3]) (t := 70) ?hr ?_; (case hd => rfl); (case hg => rfl); (case hr => first | (go_simp; done) | (go_simp; rfl)); intro gb hg w1 hbox hb; have n0_ := Aside0.mk (below_step HB.out hb); have n1_ := Aside0.mk hbox; clear HB; have HB := n0_; have BK := n1_; clear n0_ n1_ hbox hg; have e0 := (hb.cell (World.block_lt_of_cell? w _ H0.out)).trans H0.out; have e1 := (hb.cell (World.block_lt_of_cell? w _ H1.out)).trans H1.out; have e2 := (hb.cell (World.block_lt_of_cell? w _ H2.out)).trans H2.out; have e3 := (hb.cell (World.block_lt_of_cell? w _ H3.out)).trans H3.out; have e4 := (hb.cell (World.block_lt_of_cell? w _ H4.out)).trans H4.out; clear hb; have d0 := (blk_cell BK.out 0).trans (show (#[Value.int .i64 x.f0, .int .i64 x.f1, .int .i64 x.f2, .int .i64 x.f3] : Array Value)[0]? = _ from rfl); have d1 := (blk_cell BK.out 1).trans (show (#[Value.int .i64 x.f0, .int .i64 x.f1, .int .i64 x.f2, .int .i64 x.f3] : Array Value)[1]? = _ from rfl); have d2 := (blk_cell BK.out 2).trans (show (#[Value.int .i64 x.f0, .int .i64 x.f1, .int .i64 x.f2, .int .i64 x.f3] : Array Value)[2]? = _ from rfl); have d3 := (blk_cell BK.out 3).trans (show (#[Value.int .i64 x.f0, .int .i64 x.f1, .int .i64 x.f2, .int .i64 x.f3] : Array Value)[3]? = _ from rfl); skip))
 go_ret
 exact ⟨by unfold impl_DoDesk_2.p; first | rfl | (by_cases q : x.f0 = b2 <;> simp [q]), HB.out⟩
theorem impl_DoDesk_2.take_any (l : List S70) (p : S70 → Bool) (i : Nat) (h : i < l.length) : (l.take (i + 1)).any p = ((l.take i).any p || p (rd_T70 l i)) := by
 have e : rd_T70 l (i : Int) = l[i] := by simp [rd_T70, List.getElem?_eq_getElem h]
 rw [List.take_add_one, List.getElem?_eq_getElem h, List.any_append, e]
 simp only [Option.toList_some, List.any_cons, List.any_nil, Bool.or_false]
set_option maxHeartbeats 8000000 in
set_option maxRecDepth 100000 in
theorem impl_DoDesk_2.idx (A0 : Option Addr) (c0 : Nat) (l0 : List S70) (b0 b1 b2 b3 b4 : Int) (w : World) (hr0 : Kd.C k70 w A0 l0.length l0) {g3 : Nat} (hg3_0 : w.cell? ⟨g3, 0, none⟩ = some (.int .i64 b0)) (hg3_1 : w.cell? ⟨g3, 1, none⟩ = some (.int .i64 b1)) (hg3_2 : w.cell? ⟨g3, 2, none⟩ = some (.int .i64 b2)) (hg3_3 : w.cell? ⟨g3, 3, none⟩ = some (.int .i64 b3)) (hg3_4 : w.cell? ⟨g3, 4, none⟩ = some (.int .i64 b4)) :
  Calls Try.prog 50 #[.slice A0 l0.length c0, .func (.func 51) #[] #[.pointer (some ⟨g3, 0, none⟩)]] w fun e w' => (∃ i : Int, e = .returned (.int .i64 i) ∧ ((i = -1 ∧ l0.any (impl_DoDesk_2.p b0 b1 b2 b3 b4) = false) ∨ (0 ≤ i ∧ i < l0.length ∧ l0.any (impl_DoDesk_2.p b0 b1 b2 b3 b4) = true ∧ (l0.take i.toNat).any (impl_DoDesk_2.p b0 b1 b2 b3 b4) = false ∧ (impl_DoDesk_2.p b0 b1 b2 b3 b4) (rd_T70 l0 i) = true))) ∧ Below w.heap.size w w' := by
 have hu70 := Try.underlying70
 have HR := Aside0.mk hr0
 have HM := Aside0.mk (Kd.C_max hr0)
 have HL := Aside0.mk (show ∀ W : World, Below w.heap.size w W → ∀ x : S70, Calls Try.prog 51 #[.agg #[.int .i64 x.f0, .int .i64 x.f1, .int .i64 x.f2, .int .i64 x.f3], .pointer (some ⟨g3, 0, none⟩)] W (fun e w' => e = .returned (.bool ((impl_DoDesk_2.p b0 b1 b2 b3 b4) x)) ∧ Below w.heap.size w w') from fun W hW x => (impl_DoDesk_2.lit b0 b1 b2 b3 b4 x W ((hW.cell (World.block_lt_of_cell? w _ hg3_0)).trans hg3_0) ((hW.cell (World.block_lt_of_cell? w _ hg3_1)).trans hg3_1) ((hW.cell (World.block_lt_of_cell? w _ hg3_2)).trans hg3_2) ((hW.cell (World.block_lt_of_cell? w _ hg3_3)).trans hg3_3) ((hW.cell (World.block_lt_of_cell? w _ hg3_4)).trans hg3_4)).mono (fun e w' hh => ⟨hh.1, below_step hW hh.2⟩))
 clear hr0 hg3_0 hg3_1 hg3_2 hg3_3 hg3_4
 have HB := Aside0.mk (Below.refl w.heap.size w)
 go_enter Try.func50, Try.ntmps50
 go_wp2
 go_loopg [5, 8] (l0.length + 1) (fun gk v5 v8 w' => ∃ (x_ : Int) (i : Nat), v8 = .int .i64 x_ ∧ Aside0 (x_ = (i : Int) ∧ i ≤ l0.length ∧ gk = l0.length + 1 - i) ∧ Aside0 ((l0.take i).any (impl_DoDesk_2.p b0 b1 b2 b3 b4) = false) ∧ Aside0 (Below w.heap.size w w'))
 case atStart => exact ⟨0, 0, rfl, ⟨⟨rfl, Nat.zero_le _, rfl⟩⟩, ⟨by simp⟩, HB⟩
 case round =>
  clear HB
  obtain ⟨x_, i, rfl, HI, HA, HB⟩ := hrel
  have hxi := HI.out.1
  by_cases c : i < l0.length
  ·have hc : decide (x_ < (l0.length : Int)) = true := decide_eq_true (by omega)
   have h0 : 0 ≤ x_ := by omega
   have h1 : x_ < (l0.length : Int) := by omega
   have HC := Aside0.mk c
   obtain ⟨ad, e1, hx0, hx1, hx2, hx3⟩ := at_T70 HR.out x_ h0 h1
   cases e1
   replace hx0 := (HB.out.cell (World.block_lt_of_cell? w _ hx0)).trans hx0
   replace hx1 := (HB.out.cell (World.block_lt_of_cell? w _ hx1)).trans hx1
   replace hx2 := (HB.out.cell (World.block_lt_of_cell? w _ hx2)).trans hx2
   replace hx3 := (HB.out.cell (World.block_lt_of_cell? w _ hx3)).trans hx3
   replace h0 := eq_true h0
   replace h1 := eq_true h1
   have HT := Aside0.mk (impl_DoDesk_2.take_any l0 (impl_DoDesk_2.p b0 b1 b2 b3 b4) i c)
   rw [← hxi] at HT
   clear c hxi
   generalize hX_ : rd_T70 l0 x_ = x at *
   have HXE := Aside0.mk hX_
   clear hX_
   obtain ⟨bx, hbx⟩ : ∃ q, (impl_DoDesk_2.p b0 b1 b2 b3 b4) x = q := ⟨_, rfl⟩
   have HX := Aside0.mk (show ∀ W : World, Below w.heap.size w W → Calls Try.prog 51 #[.agg #[.int .i64 x.f0, .int .i64 x.f1, .int .i64 x.f2, .int .i64 x.f3], .pointer (some ⟨g3, 0, none⟩)] W (fun e w' => e = .returned (.bool bx) ∧ Below w.heap.size w w') from fun W hW => by have q := HL.out W hW x; rw [hbx] at q; exact q)
   have HBX := Aside0.mk hbx
   clear hbx
   cases bx with
   | true =>
    go_wp2_with (first | (go_at_call  51; (with_reducible refine (HX.out _ belowNow).mono ?_); rintro e w' ⟨rfl, hb_⟩; (try refine ⟨_, rfl, ?_⟩)))
    go_ret
    have hm := HM.out
    have hi := HI.out
    have hlt := HC.out
    have hxi := hi.1
    subst hxi
    exact ⟨⟨i, rfl, Or.inr ⟨by omega, by omega, by
     rw [← List.take_append_drop (i + 1) l0, List.any_append, HT.out, HBX.out]; simp, by simpa using HA.out, by rw [HXE.out]; exact HBX.out⟩⟩, hb_⟩
   | false =>
    go_wp2_with (first | (go_at_call  51; (with_reducible refine (HX.out _ belowNow).mono ?_); rintro e w' ⟨rfl, hb_⟩; (try refine ⟨_, rfl, ?_⟩)))
    have hlt := HC.out
    have hi := HI.out
    have hm := HM.out
    have hw : wrap64 (x_ + 1) = ((i + 1 : Nat) : Int) := by unfold wrap64; omega
    go_roundg (gk - 1)
    case measure => omega
    case rel => exact ⟨_, i + 1, rfl, ⟨⟨by first | exact hw | omega, by omega, by omega⟩⟩, ⟨by rw [HT.out, HA.out, HBX.out]; rfl⟩, ⟨hb_⟩⟩
  ·have hi := HI.out
   have hc : decide (x_ < (l0.length : Int)) = false := decide_eq_false (by omega)
   have he : i = l0.length := by omega
   have h := HA.out
   rw [he, List.take_length] at h
   clear HI HA hi he c hxi
   go_wp2
   go_ret
   exact ⟨⟨-1, rfl, Or.inl ⟨rfl, h⟩⟩, HB.out⟩
def impl_DoDesk_2.ix (p : S70 → Bool) : List S70 → Int → Int
 | [], _ => -1
 | x :: r, i => if p x = true then i else impl_DoDesk_2.ix p r (i + 1)
theorem impl_DoDesk_2.ix_none (p : S70 → Bool) : ∀ (l : List S70) (j : Int), l.any p = false → impl_DoDesk_2.ix p l j = -1
 | [], _, _ => rfl
 | x :: r, j, h => by
  rw [List.any_cons, Bool.or_eq_false_iff] at h
  rw [impl_DoDesk_2.ix, h.1, if_neg (by decide), impl_DoDesk_2.ix_none p r _ h.2]
theorem impl_DoDesk_2.ix_some (p : S70 → Bool) : ∀ (l : List S70) (j : Int) (i : Nat), i < l.length → (l.take i).any p = false → p (l.getD i z70) = true → impl_DoDesk_2.ix p l j = j + i
 | [], _, _, h, _, _ => by simp at h
 | x :: r, j, 0, _, _, h => by
  rw [impl_DoDesk_2.ix, if_pos (by simpa using h)]; simp
 | x :: r, j, i + 1, h0, h1, h => by
  rw [List.take_succ_cons, List.any_cons, Bool.or_eq_false_iff] at h1
  rw [impl_DoDesk_2.ix, h1.1, if_neg (by decide), impl_DoDesk_2.ix_some p r (j + 1) i (by simpa using h0) h1.2 (by simpa using h)]
  simp; omega
def impl_DoDesk_2.f (l0 : List S70) (b0 b1 b2 b3 b4 : Int) : Option Int := some (impl_DoDesk_2.ix (impl_DoDesk_2.p b0 b1 b2 b3 b4) l0 0)
set_option maxHeartbeats 8000000 in
set_option maxRecDepth 100000 in
theorem impl_DoDesk_2.calls (A0 : Option Addr) (c0 : Nat) (l0 : List S70) (b0 b1 b2 b3 b4 : Int) (r : Int) (w : World) (hr0 : Kd.C k70 w A0 l0.length l0) (hc0 : l0.length ≤ c0) (h : impl_DoDesk_2.f l0 b0 b1 b2 b3 b4 = some r) {g3 : Nat} (hg3_0 : w.cell? ⟨g3, 0, none⟩ = some (.int .i64 b0) := by first | ((refine Clo.cell_now ⟨?qs, ?qt, ?hq, ?eq⟩); (case hq => ((with_reducible repeat (first | refine blk_drewN ?_ _ | refine blk_drew ?_ | refine blk_alloc ?_ _ | refine blk_far ?_ (Aside0.out (by assumption)) _)); exact Aside0.out (by assumption))); (case eq => first | rfl | (simp; done))) | (go_simp; done) | (go_simp; rfl)) (hg3_1 : w.cell? ⟨g3, 1, none⟩ = some (.int .i64 b1) := by first | ((refine Clo.cell_now ⟨?qs, ?qt, ?hq, ?eq⟩); (case hq => ((with_reducible repeat (first | refine blk_drewN ?_ _ | refine blk_drew ?_ | refine blk_alloc ?_ _ | refine blk_far ?_ (Aside0.out (by assumption)) _)); exact Aside0.out (by assumption))); (case eq => first | rfl | (simp; done))) | (go_simp; done) | (go_simp; rfl)) (hg3_2 : w.cell? ⟨g3, 2, none⟩ = some (.int .i64 b2) := by first | ((refine Clo.cell_now ⟨?qs, ?qt, ?hq, ?eq⟩); (case hq => ((with_reducible repeat (first | refine blk_drewN ?_ _ | refine blk_drew ?_ | refine blk_alloc ?_ _ | refine blk_far ?_ (Aside0.out (by assumption)) _)); exact Aside0.out (by assumption))); (case eq => first | rfl | (simp; done))) | (go_simp; done) | (go_simp; rfl)) (hg3_3 : w.cell? ⟨g3, 3, none⟩ = some (.int .i64 b3) := by first | ((refine Clo.cell_now ⟨?qs, ?qt, ?hq, ?eq⟩); (case hq => ((with_reducible repeat (first | refine blk_drewN ?_ _ | refine blk_drew ?_ | refine blk_alloc ?_ _ | refine blk_far ?_ (Aside0.out (by assumption)) _)); exact Aside0.out (by assumption))); (case eq => first | rfl | (simp; done))) | (go_simp; done) | (go_simp; rfl)) (hg3_4 : w.cell? ⟨g3, 4, none⟩ = some (.int .i64 b4) := by first | ((refine Clo.cell_now ⟨?qs, ?qt, ?hq, ?eq⟩); (case hq => ((with_reducible repeat (first | refine blk_drewN ?_ _ | refine blk_drew ?_ | refine blk_alloc ?_ _ | refine blk_far ?_ (Aside0.out (by assumption)) _)); exact Aside0.out (by assumption))); (case eq => first | rfl | (simp; done))) | (go_simp; done) | (go_simp; rfl)) :
  Calls Try.prog 50 #[.slice A0 l0.length c0, .func (.func 51) #[] #[.pointer (some ⟨g3, 0, none⟩)]] w fun e w' => e = .returned (.int .i64 r) ∧ Below w.heap.size w w' := by
 obtain rfl := Option.some.inj h
 refine (impl_DoDesk_2.idx A0 c0 l0 b0 b1 b2 b3 b4 w hr0 hg3_0 hg3_1 hg3_2 hg3_3 hg3_4).mono fun e w' hh => ?_
 obtain ⟨⟨i, rfl, hi⟩, hb_⟩ := hh
 refine ⟨?_, hb_⟩
 rcases hi with ⟨rfl, h⟩ | ⟨h0, h1, _, h2, h3⟩
 ·rw [impl_DoDesk_2.ix_none _ _ _ h]
 ·have q := impl_DoDesk_2.ix_some (impl_DoDesk_2.p b0 b1 b2 b3 b4) l0 0 i.toNat (by omega) h2 h3
  rw [q, show (0 : Int) + (i.toNat : Int) = i by omega]
theorem impl_DoDesk_2.wipe {α : Type} {P : Program} (d : Kd α) {e base g n c : Nat} {W : World} {ok : Nat → Prop} {xs : List α} (HO : d.R e W base ok (.slice (some ⟨g, 0, none⟩) n c) xs) (hn : n < c) (zs : List Value) (hz : zs.length = d.sz) (h1 : ∀ v ∈ zs, v.oneCell' = true) :
  (storeCells ⟨g, n * d.sz, none⟩ zs 0).run P W = .ok () (W.setCells g (n * d.sz) zs) ∧ d.R e (W.setCells g (n * d.sz) zs) base ok (.slice (some ⟨g, 0, none⟩) n c) xs ∧ W.grownBy (W.setCells g (n * d.sz) zs) (some g) ∧ base ≤ g := by
 obtain ⟨hnx, hnc, _⟩ := Kd.R_reads' HO
 obtain ⟨hok, inner, hown, hr⟩ := HO
 rcases hown.2 with ⟨hv, _⟩ | ⟨g', cap', cur, hv, hb, hh, hle, hcm, hcs, htake⟩
 ·cases hv
 injection hv with ha _ hc
 injection ha with ha
 injection ha with hg
 subst hg; subst hc
 have hfit : n * d.sz + zs.length ≤ cur.size := by
  rw [hz, hcs]
  calc n * d.sz + d.sz = (n + 1) * d.sz := (Nat.succ_mul _ _).symm
   _ ≤ _ := Nat.mul_le_mul_right _ hn
 obtain ⟨cur', h3, h4, h5⟩ := setCells_row zs (n * d.sz) W cur hh hfit
 obtain ⟨s1, s2, s3, s4⟩ := setCells_same g zs (n * d.sz) W
 have hfar : ∀ k', k' ≠ g → (W.setCells g (n * d.sz) zs).heap[k']? = W.heap[k']? := fun k' hk' => setCells_far zs _ k' hk'
 refine ⟨?_, ⟨hok, inner, ⟨hown.1, .inr ⟨g, c, cur', by rw [← hnx], hb, h3, hle, hcm, by rw [h4, hcs], ?_⟩⟩, hr.imp_ (fun p q hp => d.M_move (fun k' hk' => hfar k' (fun he => hk'.2 (by rw [he]; rfl))) hp)⟩, ⟨s1, s2, s3, by rw [s4]; exact Nat.le_refl _, fun k' _ hk' => hfar k' (fun he => hk' (by rw [he]))⟩, hb⟩
 ·have h := run_storeCells_cells (P := P) g (n * d.sz) zs 0 W (fun j hj => by
   rw [show n * d.sz + 0 + j = n * d.sz + j by omega, blk_cell hh, Array.getElem?_eq_getElem (show n * d.sz + j < cur.size by omega)]; rfl) (fun j hj => blk_frozen hh _) h1
  simpa using h
 ·rw [← htake, ← hnx, h5]
  have hl : (cur.toList.take (n * d.sz)).length = n * d.sz := by rw [List.length_take, Array.length_toList]; omega
  rw [List.append_assoc, List.take_left' hl]
theorem impl_DoDesk_2.grow2 {W W1 W2 : World} {g : Nat} (h1 : W.grownBy W1 (some g)) (h2 : W1.grownBy W2 (some g)) : W.grownBy W2 (some g) :=
 ⟨h2.os.trans h1.os, h2.tape.trans h1.tape, h2.output.trans h1.output, Nat.le_trans h1.size h2.size, fun k hk hne => (h2.block k (Nat.lt_of_lt_of_le hk h1.size) hne).trans (h1.block k hk hne)⟩
set_option maxHeartbeats 8000000 in
set_option maxRecDepth 100000 in
theorem impl_DoDesk_2.del {ok : Nat → Prop} {w0 W : World} {base g n c k : Nat} {xs : List S70} (i j : Int) (hi : i = (k : Int)) (hj : j = (k : Int) + 1) (HO : Kd.R k70 70 W base ok (.slice (some ⟨g, 0, none⟩) n c) xs) (hk : k < n) (HB : Below base w0 W) (hbase : base ≤ W.heap.size) :
  Calls Try.prog 54 #[.slice (some ⟨g, 0, none⟩) n c, .int .i64 i, .int .i64 j] W fun e w1 => e = .returned (.slice (some ⟨g, 0, none⟩) (n - 1) c) ∧ Kd.R k70 70 w1 base ok (.slice (some ⟨g, 0, none⟩) (n - 1) c) (xs.eraseIdx k) ∧ Below base w0 w1 ∧ W.grownBy w1 (some g) := by
 have hu29 := Try.underlying29
 obtain ⟨hnx, hnc, hC⟩ := Kd.R_reads' HO
 have hcm := Kd.C_max hC
 rw [← hnx] at hcm
 obtain ⟨m, hmn⟩ : ∃ m, n - 1 = m := ⟨_, rfl⟩
 obtain ⟨i0, hi0, hze, hsz, _⟩ := info_parts info70
 have h0 : 0 ≤ i := by omega
 have h1 : i ≤ j := by omega
 have h2 : j ≤ (n : Int) := by omega
 have h3 : (n : Int) ≤ (c : Int) := by omega
 have hne : (i == j) = false := by simp; omega
 have hcutA : ∀ W : World, (Instr.slice 29 (.slice (some ⟨g, 0, none⟩) n c) (some (.int .i64 i)) (some (.int .i64 j)) (some (.int .i64 (n : Int)))).run Try.prog W = .ok (.slice ((some (⟨g, 0, none⟩ : Addr)).map (·.add (i.toNat * 4))) (j.toNat - i.toNat) (n - i.toNat)) W := by
  intro W
  have hel : Try.prog.elem 29 = 70 := by simp [Program.elem, hu29]
  have hu : Try.prog.underlying 29 = some (.slice (Try.prog.elem 29)) := by rw [hel]; exact hu29
  rw [run_slice_lhm W 29 (some ⟨g, 0, none⟩) n c hu .i64 .i64 .i64 i j (n : Int) h0 h1 h2 h3, hel]
  have hni : ¬ n = i.toNat := by omega
  simp [sizeOf, typeInfo, hi0, hsz, sliced, Result.andThen, hni]
 have hcutB := cut_to (P := Try.prog) 29 70 .i64 hu29 hi0 (some ⟨g, 0, none⟩) n c i h0 (by omega) hnc
 have hcutC := cut_from (P := Try.prog) 29 70 .i64 hu29 hi0 4 hsz (some ⟨g, 0, none⟩) n c j (by omega) h2
 have hcutD : ∀ W : World, (Instr.slice 29 (.slice (some ⟨g, 0, none⟩) m c) (some (.int .i64 (m : Int))) (some (.int .i64 (n : Int))) none).run Try.prog W = .ok (.slice (some ⟨g, m * 4, none⟩) 1 (c - m)) W := by
  intro W
  have hel : Try.prog.elem 29 = 70 := by simp [Program.elem, hu29]
  have hu : Try.prog.underlying 29 = some (.slice (Try.prog.elem 29)) := by rw [hel]; exact hu29
  have hnm : n - m = 1 := by omega
  have hcm' : ¬ c = m := by omega
  rw [run_slice_lh W 29 (some ⟨g, 0, none⟩) m c hu .i64 .i64 (m : Int) (n : Int) (by omega) (by omega) (by omega), hel]
  simp [sizeOf, typeInfo, hi0, hsz, sliced, Result.andThen, hnm, hcm', Addr.add]
  try omega
 have hclr : ∀ (W : World) (c2 : Nat), (storeCells ⟨g, m * 4, none⟩ [.int .i64 0, .int .i64 0, .int .i64 0, .int .i64 0] 0).run Try.prog W = .ok () (W.setCells g (m * 4) [.int .i64 0, .int .i64 0, .int .i64 0, .int .i64 0]) → ∀ ty, (Builtin.clear_ #[29] ty #[.slice (some ⟨g, m * 4, none⟩) 1 c2]).run Try.prog W = .ok (.tuple #[]) (W.setCells g (m * 4) [.int .i64 0, .int .i64 0, .int .i64 0, .int .i64 0]) := by
  intro W c2 hst ty
  have hv : ∀ w, (zeroValue 70).run Try.prog w = .ok (.agg #[.int .i64 0, .int .i64 0, .int .i64 0, .int .i64 0]) w := by
   intro w
   simp [zeroValue, typeInfo, hi0, hze, Result.andThen]
  have hzc : (Builtin.zeroCells (Value.agg #[.int .i64 0, .int .i64 0, .int .i64 0, .int .i64 0]).cells 1).toList = [.int .i64 0, .int .i64 0, .int .i64 0, .int .i64 0] := by kernel_rfl
  simp [Builtin.clear_, run_underlying hu29, hv, hzc, hst]
 have ei : i.toNat = k := by omega
 have ej : j.toNat = k + 1 := by omega
 rw [ei] at hcutB
 rw [ej] at hcutC
 have HI := Aside0.mk (And.intro hi hj)
 have HS0 := Aside0.mk (And.intro HO (And.intro HB hbase))
 have HN := Aside0.mk (And.intro hk hnc)
 have HM := Aside0.mk hcm
 have HMN := Aside0.mk hmn
 clear hi hj HO HB hbase hk hC hsz hi0 hze ei ej hnx hcm hmn
 go_enter Try.func54, Try.ntmps54
 go_upto_region 5 with fail
 have R0 := Aside0.mk (show Kd.R k70 70 W.drew base ok (.slice (some ⟨g, 0, none⟩) n c) xs from by (with_reducible repeat (first | apply Kd.R_alloc | apply Kd.R_drewN | apply Kd.R_drew)); exact HS0.out.1)
 have SB := Aside0.mk (show Below base w0 W.drew ∧ base ≤ W.drew.heap.size ∧ W.grownBy W.drew (some g) from ⟨below_drew1 HS0.out.2.1, HS0.out.2.2, ⟨rfl, rfl, rfl, Nat.le_refl _, fun _ _ _ => rfl⟩⟩)
 refine wp_region_held_drew (S := fun _ => True) rfl trivial (fun HS => ?_)
 refine Arl.take (i := 0) (v := .slice (some ⟨g, 0, none⟩) n c) rfl (by kernel_rfl) (by kernel_rfl) (by kernel_rfl) (fun _ _ _ h => h) (by rfl) ((fun W hW => by go_simp; try rfl)) HS ?_
 simp only [Act.put, List.setIfInBounds_toArray, List.set_cons_zero, List.set_cons_succ]
 refine Arl.take (i := 1) (v := .int .i64 i) rfl (by kernel_rfl) (by kernel_rfl) (by kernel_rfl) (fun _ _ _ h => h) (by rfl) ((fun W hW => by go_simp; try rfl)) HS ?_
 simp only [Act.put, List.setIfInBounds_toArray, List.set_cons_zero, List.set_cons_succ]
 refine Arl.take (i := 2) (v := .slice (some ⟨g, 0, none⟩) k c) rfl (by kernel_rfl) (by kernel_rfl) (by kernel_rfl) (fun _ _ _ h => h) (by rfl) ((fun W hW => by go_simp; try rfl)) HS ?_
 simp only [Act.put, List.setIfInBounds_toArray, List.set_cons_zero, List.set_cons_succ]
 refine Arl.take (i := 3) (v := .slice (some ⟨g, 0, none⟩) n c) rfl (by kernel_rfl) (by kernel_rfl) (by kernel_rfl) (fun _ _ _ h => h) (by rfl) ((fun W hW => by go_simp; try rfl)) HS ?_
 simp only [Act.put, List.setIfInBounds_toArray, List.set_cons_zero, List.set_cons_succ]
 refine Arl.take (i := 4) (v := .int .i64 j) rfl (by kernel_rfl) (by kernel_rfl) (by kernel_rfl) (fun _ _ _ h => h) (by rfl) ((fun W hW => by go_simp; try rfl)) HS ?_
 simp only [Act.put, List.setIfInBounds_toArray, List.set_cons_zero, List.set_cons_succ]
 refine Arl.take (i := 5) (v := .slice (if c = k + 1 then some ⟨g, 0, none⟩ else (some (⟨g, 0, none⟩ : Addr)).map (·.add ((k + 1) * 4))) (n - (k + 1)) (c - (k + 1))) rfl (by kernel_rfl) (by kernel_rfl) (by kernel_rfl) (fun _ _ _ h => h) (by rfl) ((fun W hW => by go_simp; try rfl)) HS ?_
 simp only [Act.put, List.setIfInBounds_toArray, List.set_cons_zero, List.set_cons_succ]
 refine wpAnyH_ready (rs := [6]) (by kernel_rfl) (by simp) ?_
 refine AllReadyH.cons (o := _) (Arl.nth_some rfl) (fun K hK => ?_) AllReadyH.nil
 refine Kd.R_delete_step k70 (w0 := w0) base (by rfl) (.tmp 22) (.tmp 25) 29 70 rfl hu29 (by kernel_rfl) (g := g) (n := n) (c := c) (k := k) rfl rfl rfl rfl R0.out HN.out.1 SB.out.1 SB.out.2.1 ?_
 intro w1 ho hb hg
 rw [HMN.out] at ho ⊢
 have R1 := Aside0.mk ho
 have GB := Aside0.mk (And.intro hb (And.intro (impl_DoDesk_2.grow2 SB.out.2.2 hg) (Nat.le_trans SB.out.2.1 hg.size)))
 clear ho hb hg
 refine hK.out _ _ trivial (fun HS => ?_)
 clear hK
 simp only [Act.put, List.setIfInBounds_toArray, List.set_cons_zero, List.set_cons_succ]
 refine Arl.take (i := 7) (v := .slice (some ⟨g, 0, none⟩) m c) rfl (by kernel_rfl) (by kernel_rfl) (by kernel_rfl) (fun _ _ _ h => h) (by rfl) ((fun W hW => by go_simp; try rfl)) HS ?_
 simp only [Act.put, List.setIfInBounds_toArray, List.set_cons_zero, List.set_cons_succ]
 refine wpAnyH_done (by kernel_rfl) ?_ _
 have WP := Aside0.mk (impl_DoDesk_2.wipe (P := Try.prog) k70 R1.out (by have := HN.out; have := HMN.out; omega) [.int .i64 0, .int .i64 0, .int .i64 0, .int .i64 0] rfl (by intro v hv; simp at hv; subst hv; rfl))
 have hcl := hclr w1 (c - m) WP.out.1
 go_wp2
 all_goals
  go_ret
  rw [HMN.out]
  have W2 := WP.out.2.1
  try rw [show c = k + 1 from by assumption] at W2
  exact ⟨rfl, W2, pw_below_grown GB.out.1 (some g) GB.out.2.2 WP.out.2.2.1 (fun k hk => by cases hk; exact WP.out.2.2.2), impl_DoDesk_2.grow2 GB.out.2.1 WP.out.2.2.1⟩
theorem impl_DoDesk_2.add_blk (a : Addr) (n : Nat) : (a.add n).block = a.block := by unfold Addr.add; split <;> rfl
set_option maxHeartbeats 8000000 in
set_option maxRecDepth 100000 in
theorem impl_DoDesk_2.no {g n1 c1 n2 c2 : Nat} {A1 A2 : Option Addr} {a b : Int} (code : Int) (w : World) (hb : w.heap[g]? = some (.cells #[.int .i64 a, .slice A1 n1 c1, .slice A2 n2 c2, .int .i64 b] 31 (0, 0))) :
  Calls Try.prog 49 #[.int .i64 code, .pointer (some ⟨g, 0, none⟩)] w fun e w' => e = .returned (.tuple #[.agg #[.int .i64 a, .slice A1 n1 c1, .slice A2 n2 c2, .int .i64 b], .slice none 0 0, .int .i64 code]) ∧ Below w.heap.size w w' := by
 have hu31 := Try.underlying31
 have d0 : ∀ o, (w.alloc o).cell? ⟨g, 0, none⟩ = some (.int .i64 a) := fun o => (blk_cell (blk_alloc hb o) 0).trans rfl
 have d1 : ∀ o, (w.alloc o).cell? ⟨g, 1, none⟩ = some (.slice A1 n1 c1) := fun o => (blk_cell (blk_alloc hb o) 1).trans rfl
 have d2 : ∀ o, (w.alloc o).cell? ⟨g, 2, none⟩ = some (.slice A2 n2 c2) := fun o => (blk_cell (blk_alloc hb o) 2).trans rfl
 have d3 : ∀ o, (w.alloc o).cell? ⟨g, 3, none⟩ = some (.int .i64 b) := fun o => (blk_cell (blk_alloc hb o) 3).trans rfl
 clear hb
 go_enter Try.func49, Try.ntmps49
 go_wp2
 refine bodyPost_ret (results_ctt rfl _ _ w.heap.size 31 #[.int .i64 a, .slice A1 n1 c1, .slice A2 n2 c2, .int .i64 b] (0, 0) _ rfl (by exact Array.getElem?_push_size) hu31 rfl (by kernel_rfl)) rfl ?_
 exact ⟨rfl, below_alloc (Below.refl _ _) _⟩
-- Arl.

/-! ### impl_DoDesk_3: function 53 -/
def impl_DoDesk_3.p (b0 b1 b2 b3 b4 : Int) (x : S41) : Bool := decide (x.f1 = b2)
set_option maxHeartbeats 8000000 in
set_option maxRecDepth 100000 in
theorem impl_DoDesk_3.lit (b0 b1 b2 b3 b4 : Int) (x : S41) (w : World) {g3 : Nat} (hg3_0 : w.cell? ⟨g3, 0, none⟩ = some (.int .i64 b0)) (hg3_1 : w.cell? ⟨g3, 1, none⟩ = some (.int .i64 b1)) (hg3_2 : w.cell? ⟨g3, 2, none⟩ = some (.int .i64 b2)) (hg3_3 : w.cell? ⟨g3, 3, none⟩ = some (.int .i64 b3)) (hg3_4 : w.cell? ⟨g3, 4, none⟩ = some (.int .i64 b4)) :
  Calls Try.prog 53 #[.agg #[.int .i64 x.f0, .int .i64 x.f1, .int .i64 x.f2], .pointer (some ⟨g3, 0, none⟩)] w fun e w' => e = .returned (.bool (impl_DoDesk_3.p b0 b1 b2 b3 b4 x)) ∧ Below w.heap.size w w' := by
 have hu41 := Try.underlying41
 have hu47 := Try.underlying47
 have HB := Aside0.mk (Below.refl w.heap.size w)
 have H0 := Aside0.mk hg3_0
 have H1 := Aside0.mk hg3_1
 have H2 := Aside0.mk hg3_2
 have H3 := Aside0.mk hg3_3
 have H4 := Aside0.mk hg3_4
 clear hg3_0 hg3_1 hg3_2 hg3_3 hg3_4
 go_enter Try.func53, Try.ntmps53
 go_wp2_with (first | ((with_reducible refine gate_dst (N := 2) rfl ?_); refine box_event ?hg (N := 2) ?hd (cs := #[.int .i64 x.f0, .int .i64 x.f1, .int .i64 x.f2]) (t := 41) ?hr ?_; (case hd => rfl); (case hg => rfl); (case hr => first | (go_simp; done) | (go_simp; rfl)); intro gb hg w1 hbox hb; have n0_ := Aside0.mk (below_step HB.out hb); have n1_ := Aside0.mk hbox; clear HB; have HB := n0_; have BK := n1_; clear n0_ n1_ hbox hg; have e0 := (hb.cell (World.block_lt_of_cell? w _ H0.out)).trans H0.out; have e1 := (hb.cell (World.block_lt_of_cell? w _ H1.out)).trans H1.out; have e2 := (hb.cell (World.block_lt_of_cell? w _ H2.out)).trans H2.out; have e3 := (hb.cell (World.block_lt_of_cell? w _ H3.out)).trans H3.out; have e4 := (hb.cell (World.block_lt_of_cell? w _ H4.out)).trans H4.out; clear hb; have d0 := (blk_cell BK.out 0).trans (show (#[Value.int .i64 x.f0, .int .i64 x.f1, .int .i64 x.f2] : Array Value)[0]? = _ from rfl); have d1 := (blk_cell BK.out 1).trans (show (#[Value.int .i64 x.f0, .int .i64 x.f1, .int .i64 x.f2] : Array Value)[1]? = _ from rfl); have d2 := (blk_cell BK.out 2).trans (show (#[Value.int .i64 x.f0, .int .i64 x.f1, .int .i64 x.f2] : Array Value)[2]? = _ from rfl); skip))
 go_ret
 exact ⟨by unfold impl_DoDesk_3.p; first | rfl | (by_cases q : x.f1 = b2 <;> simp [q]), HB.out⟩
theorem impl_DoDesk_3.take_any (l : List S41) (p : S41 → Bool) (i : Nat) (h : i < l.length) : (l.take (i + 1)).any p = ((l.take i).any p || p (rd_T41 l i)) := by
 have e : rd_T41 l (i : Int) = l[i] := by simp [rd_T41, List.getElem?_eq_getElem h]
 rw [List.take_add_one, List.getElem?_eq_getElem h, List.any_append, e]
 simp only [Option.toList_some, List.any_cons, List.any_nil, Bool.or_false]
set_option maxHeartbeats 8000000 in
set_option maxRecDepth 100000 in
theorem impl_DoDesk_3.idx (A0 : Option Addr) (c0 : Nat) (l0 : List S41) (b0 b1 b2 b3 b4 : Int) (w : World) (hr0 : Kd.C k41 w A0 l0.length l0) {g3 : Nat} (hg3_0 : w.cell? ⟨g3, 0, none⟩ = some (.int .i64 b0)) (hg3_1 : w.cell? ⟨g3, 1, none⟩ = some (.int .i64 b1)) (hg3_2 : w.cell? ⟨g3, 2, none⟩ = some (.int .i64 b2)) (hg3_3 : w.cell? ⟨g3, 3, none⟩ = some (.int .i64 b3)) (hg3_4 : w.cell? ⟨g3, 4, none⟩ = some (.int .i64 b4)) :
  Calls Try.prog 79 #[.slice A0 l0.length c0, .func (.func 53) #[] #[.pointer (some ⟨g3, 0, none⟩)]] w fun e w' => (∃ i : Int, e = .returned (.int .i64 i) ∧ ((i = -1 ∧ l0.any (impl_DoDesk_3.p b0 b1 b2 b3 b4) = false) ∨ (0 ≤ i ∧ i < l0.length ∧ l0.any (impl_DoDesk_3.p b0 b1 b2 b3 b4) = true ∧ (l0.take i.toNat).any (impl_DoDesk_3.p b0 b1 b2 b3 b4) = false ∧ (impl_DoDesk_3.p b0 b1 b2 b3 b4) (rd_T41 l0 i) = true))) ∧ Below w.heap.size w w' := by
 have hu41 := Try.underlying41
 have HR := Aside0.mk hr0
 have HM := Aside0.mk (Kd.C_max hr0)
 have HL := Aside0.mk (show ∀ W : World, Below w.heap.size w W → ∀ x : S41, Calls Try.prog 53 #[.agg #[.int .i64 x.f0, .int .i64 x.f1, .int .i64 x.f2], .pointer (some ⟨g3, 0, none⟩)] W (fun e w' => e = .returned (.bool ((impl_DoDesk_3.p b0 b1 b2 b3 b4) x)) ∧ Below w.heap.size w w') from fun W hW x => (impl_DoDesk_3.lit b0 b1 b2 b3 b4 x W ((hW.cell (World.block_lt_of_cell? w _ hg3_0)).trans hg3_0) ((hW.cell (World.block_lt_of_cell? w _ hg3_1)).trans hg3_1) ((hW.cell (World.block_lt_of_cell? w _ hg3_2)).trans hg3_2) ((hW.cell (World.block_lt_of_cell? w _ hg3_3)).trans hg3_3) ((hW.cell (World.block_lt_of_cell? w _ hg3_4)).trans hg3_4)).mono (fun e w' hh => ⟨hh.1, below_step hW hh.2⟩))
 clear hr0 hg3_0 hg3_1 hg3_2 hg3_3 hg3_4
 have HB := Aside0.mk (Below.refl w.heap.size w)
 go_enter Try.func79, Try.ntmps79
 go_wp2
 go_loopg [5, 8] (l0.length + 1) (fun gk v5 v8 w' => ∃ (x_ : Int) (i : Nat), v8 = .int .i64 x_ ∧ Aside0 (x_ = (i : Int) ∧ i ≤ l0.length ∧ gk = l0.length + 1 - i) ∧ Aside0 ((l0.take i).any (impl_DoDesk_3.p b0 b1 b2 b3 b4) = false) ∧ Aside0 (Below w.heap.size w w'))
 case atStart => exact ⟨0, 0, rfl, ⟨⟨rfl, Nat.zero_le _, rfl⟩⟩, ⟨by simp⟩, HB⟩
 case round =>
  clear HB
  obtain ⟨x_, i, rfl, HI, HA, HB⟩ := hrel
  have hxi := HI.out.1
  by_cases c : i < l0.length
  ·have hc : decide (x_ < (l0.length : Int)) = true := decide_eq_true (by omega)
   have h0 : 0 ≤ x_ := by omega
   have h1 : x_ < (l0.length : Int) := by omega
   have HC := Aside0.mk c
   obtain ⟨ad, e1, hx0, hx1, hx2⟩ := at_T41 HR.out x_ h0 h1
   cases e1
   replace hx0 := (HB.out.cell (World.block_lt_of_cell? w _ hx0)).trans hx0
   replace hx1 := (HB.out.cell (World.block_lt_of_cell? w _ hx1)).trans hx1
   replace hx2 := (HB.out.cell (World.block_lt_of_cell? w _ hx2)).trans hx2
   replace h0 := eq_true h0
   replace h1 := eq_true h1
   have HT := Aside0.mk (impl_DoDesk_3.take_any l0 (impl_DoDesk_3.p b0 b1 b2 b3 b4) i c)
   rw [← hxi] at HT
   clear c hxi
   generalize hX_ : rd_T41 l0 x_ = x at *
   have HXE := Aside0.mk hX_
   clear hX_
   obtain ⟨bx, hbx⟩ : ∃ q, (impl_DoDesk_3.p b0 b1 b2 b3 b4) x = q := ⟨_, rfl⟩
   have HX := Aside0.mk (show ∀ W : World, Below w.heap.size w W → Calls Try.prog 53 #[.agg #[.int .i64 x.f0, .int .i64 x.f1, .int .i64 x.f2], .pointer (some ⟨g3, 0, none⟩)] W (fun e w' => e = .returned (.bool bx) ∧ Below w.heap.size w w') from fun W hW => by have q := HL.out W hW x; rw [hbx] at q; exact q)
   have HBX := Aside0.mk hbx
   clear hbx
   cases bx with
   | true =>
    go_wp2_with (first | (go_at_call  53; (with_reducible refine (HX.out _ belowNow).mono ?_); rintro e w' ⟨rfl, hb_⟩; (try refine ⟨_, rfl, ?_⟩)))
    go_ret
    have hm := HM.out
    have hi := HI.out
    have hlt := HC.out
    have hxi := hi.1
    subst hxi
    exact ⟨⟨i, rfl, Or.inr ⟨by omega, by omega, by
     rw [← List.take_append_drop (i + 1) l0, List.any_append, HT.out, HBX.out]; simp, by simpa using HA.out, by rw [HXE.out]; exact HBX.out⟩⟩, hb_⟩
   | false =>
    go_wp2_with (first | (go_at_call  53; (with_reducible refine (HX.out _ belowNow).mono ?_); rintro e w' ⟨rfl, hb_⟩; (try refine ⟨_, rfl, ?_⟩)))
    have hlt := HC.out
    have hi := HI.out
    have hm := HM.out
    have hw : wrap64 (x_ + 1) = ((i + 1 : Nat) : Int) := by unfold wrap64; omega
    go_roundg (gk - 1)
    case measure => omega
    case rel => exact ⟨_, i + 1, rfl, ⟨⟨by first | exact hw | omega, by omega, by omega⟩⟩, ⟨by rw [HT.out, HA.out, HBX.out]; rfl⟩, ⟨hb_⟩⟩
  ·have hi := HI.out
   have hc : decide (x_ < (l0.length : Int)) = false := decide_eq_false (by omega)
   have he : i = l0.length := by omega
   have h := HA.out
   rw [he, List.take_length] at h
   clear HI HA hi he c hxi
   go_wp2
   go_ret
   exact ⟨⟨-1, rfl, Or.inl ⟨rfl, h⟩⟩, HB.out⟩
def impl_DoDesk_3.f (l0 : List S41) (b0 b1 b2 b3 b4 : Int) : Option Bool := some (l0.any (impl_DoDesk_3.p b0 b1 b2 b3 b4))
set_option maxHeartbeats 8000000 in
set_option maxRecDepth 100000 in
theorem impl_DoDesk_3.calls (A0 : Option Addr) (c0 : Nat) (l0 : List S41) (b0 b1 b2 b3 b4 : Int) (r : Bool) (w : World) (hr0 : Kd.C k41 w A0 l0.length l0) (hc0 : l0.length ≤ c0) (h : impl_DoDesk_3.f l0 b0 b1 b2 b3 b4 = some r) {g3 : Nat} (hg3_0 : w.cell? ⟨g3, 0, none⟩ = some (.int .i64 b0) := by first | ((refine Clo.cell_now ⟨?qs, ?qt, ?hq, ?eq⟩); (case hq => ((with_reducible repeat (first | refine blk_drewN ?_ _ | refine blk_drew ?_ | refine blk_alloc ?_ _ | refine blk_far ?_ (Aside0.out (by assumption)) _)); exact Aside0.out (by assumption))); (case eq => first | rfl | (simp; done))) | (go_simp; done) | (go_simp; rfl)) (hg3_1 : w.cell? ⟨g3, 1, none⟩ = some (.int .i64 b1) := by first | ((refine Clo.cell_now ⟨?qs, ?qt, ?hq, ?eq⟩); (case hq => ((with_reducible repeat (first | refine blk_drewN ?_ _ | refine blk_drew ?_ | refine blk_alloc ?_ _ | refine blk_far ?_ (Aside0.out (by assumption)) _)); exact Aside0.out (by assumption))); (case eq => first | rfl | (simp; done))) | (go_simp; done) | (go_simp; rfl)) (hg3_2 : w.cell? ⟨g3, 2, none⟩ = some (.int .i64 b2) := by first | ((refine Clo.cell_now ⟨?qs, ?qt, ?hq, ?eq⟩); (case hq => ((with_reducible repeat (first | refine blk_drewN ?_ _ | refine blk_drew ?_ | refine blk_alloc ?_ _ | refine blk_far ?_ (Aside0.out (by assumption)) _)); exact Aside0.out (by assumption))); (case eq => first | rfl | (simp; done))) | (go_simp; done) | (go_simp; rfl)) (hg3_3 : w.cell? ⟨g3, 3, none⟩ = some (.int .i64 b3) := by first | ((refine Clo.cell_now ⟨?qs, ?qt, ?hq, ?eq⟩); (case hq => ((with_reducible repeat (first | refine blk_drewN ?_ _ | refine blk_drew ?_ | refine blk_alloc ?_ _ | refine blk_far ?_ (Aside0.out (by assumption)) _)); exact Aside0.out (by assumption))); (case eq => first | rfl | (simp; done))) | (go_simp; done) | (go_simp; rfl)) (hg3_4 : w.cell? ⟨g3, 4, none⟩ = some (.int .i64 b4) := by first | ((refine Clo.cell_now ⟨?qs, ?qt, ?hq, ?eq⟩); (case hq => ((with_reducible repeat (first | refine blk_drewN ?_ _ | refine blk_drew ?_ | refine blk_alloc ?_ _ | refine blk_far ?_ (Aside0.out (by assumption)) _)); exact Aside0.out (by assumption))); (case eq => first | rfl | (simp; done))) | (go_simp; done) | (go_simp; rfl)) :
  Calls Try.prog 52 #[.slice A0 l0.length c0, .func (.func 53) #[] #[.pointer (some ⟨g3, 0, none⟩)]] w fun e w' => e = .returned (.bool r) ∧ Below w.heap.size w w' := by
 obtain rfl := Option.some.inj h
 have HI := Aside0.mk (impl_DoDesk_3.idx A0 c0 l0 b0 b1 b2 b3 b4 w hr0 hg3_0 hg3_1 hg3_2 hg3_3 hg3_4)
 clear h hg3_0 hg3_1 hg3_2 hg3_3 hg3_4 hr0
 go_enter Try.func52, Try.ntmps52
 go_wp2_with (first | (go_at_call 79; (with_reducible refine (HI.out).mono ?_); rintro e w' ⟨⟨i, rfl, hi⟩, hb_⟩; (try refine ⟨_, rfl, ?_⟩)))
 go_ret
 refine ⟨?_, hb_⟩
 rcases hi with ⟨rfl, h⟩ | ⟨h0, h1, h, _⟩
 ·rw [h]; rfl
 ·rw [h]; simp [h0]

end Go.Proofs.Ytllgjohkkahfgaa.PFnTurns8
