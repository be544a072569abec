-- laid by a program of this session (wip/lay/lay.py); Lean checks it
import Derived.Test.YtkcmdfeiaafdjaaVFnExactRoute7Short
import Derived.Test.YtkcmdfeiaafdjaaPFnExactRoute7x0
import Derived.Test.YtkcmdfeiaafdjaaPFnExactRoute7x8
namespace Go.Proofs.Ytkcmdfeiaafdjaa.PFnExactRoute7
-- squashed
open Go.RowKit Go.Proofs.YtkcmdfeiaafdjaaW.PrintWords Go.Proofs.YtkcmdfeiaafdjaaW.PrintLast Go.Proofs.YtkcmdfeiaafdjaaW.PrintMore Go.Proofs.Ytkcmdfeiaafdjaa.Short
attribute [local go_sem] max2_int min2_int max_two min_two max_three min_three max_four min_four   -- for this text's walks alone
set_option linter.unusedVariables false
set_option linter.unusedSimpArgs false

/-! ### laws_eqSubS: function 14 -/
def laws_eqSubS.l0 : Nat → List (S43) → List (S43) → Int → Option (Bool)
 | 0, _, _, _ => none
 | k + 1, x0, x1, x5 => if x5 < (x0.length : Int) then (if 0 ≤ x5 then (if x5 < (x1.length : Int) then ((laws_eqSub.f k ((rd_T43 x0 x5).f0) ((rd_T43 x0 x5).f1) ((rd_T43 x0 x5).f2) ((rd_T43 x1 x5).f0) ((rd_T43 x1 x5).f1) ((rd_T43 x1 x5).f2)).bind fun t295 => (if t295 = true then (laws_eqSubS.l0 k x0 x1 (wrap64 (x5 + 1))) else (some false))) else (none)) else (none)) else (some true)
def laws_eqSubS.f (k : Nat) (l0 : List (S43)) (l1 : List (S43)) : Option (Bool) := if (l0.length : Int) = (l1.length : Int) then (laws_eqSubS.l0 k l0 l1 0) else (some false)
theorem laws_eqSubS.mono_l : ∀ k, (∀ y0 y1 y2, LeO (laws_eqSubS.l0 k y0 y1 y2) (laws_eqSubS.l0 (k + 1) y0 y1 y2))
 | 0 => fun _ _ _ r h => by simp [laws_eqSubS.l0] at h
 | k + 1 => by
  have ih0 := laws_eqSubS.mono_l k
  ·intro y0 y1 y2
   unfold laws_eqSubS.l0
   repeat' first
   | (with_reducible exact ih0 _ _ _)
   | (with_reducible exact laws_eqSub.mono _ _ _ _ _ _ _)
   | (with_reducible exact LeO.refl _)
   | (with_reducible exact LeO.none _)
   | (with_reducible refine LeO.ite ?_ ?_)
   | (with_reducible refine LeO.bind ?_ (fun _ => ?_))
   | exact ih0 _ _ _
   | exact laws_eqSub.mono _ _ _ _ _ _ _
   | exact LeO.none _
   | refine LeO.ite ?_ ?_
   | refine LeO.bind ?_ (fun _ => ?_)
theorem laws_eqSubS.mono : ∀ a0 a1 k, LeO (laws_eqSubS.f k a0 a1) (laws_eqSubS.f (k + 1) a0 a1) := by
 intro a0 a1 k
 have ih0 := laws_eqSubS.mono_l k
 unfold laws_eqSubS.f
 repeat' first
   | (with_reducible exact ih0 _ _ _)
   | (with_reducible exact laws_eqSub.mono _ _ _ _ _ _ _)
   | (with_reducible exact LeO.refl _)
   | (with_reducible exact LeO.none _)
   | (with_reducible refine LeO.ite ?_ ?_)
   | (with_reducible refine LeO.bind ?_ (fun _ => ?_))
   | exact ih0 _ _ _
   | exact laws_eqSub.mono _ _ _ _ _ _ _
   | exact LeO.none _
   | refine LeO.ite ?_ ?_
   | refine LeO.bind ?_ (fun _ => ?_)
def laws_eqSubS.T6 : Bool × List (List Nat × List Nat) := (true, [([], []), ([], []), ([0, 1], [0, 1]), ([2], [2]), ([], []), ([], []), ([4, 5], [4, 5]), ([6], [6]), ([3, 7], [3, 7]), ([8], [8])])
def laws_eqSubS.B6 : List Nat := [0, 0, 3, 7, 0, 0, 48, 112, 255, 511]
theorem laws_eqSubS.tab6 : rtab .any (opsOf Try.f14 6) = laws_eqSubS.T6 := by kernel_rfl
theorem laws_eqSubS.bits6 : waitsOk laws_eqSubS.T6.2 laws_eqSubS.B6 = true := by kernel_rfl
set_option maxHeartbeats 8000000 in
set_option maxRecDepth 100000 in
theorem laws_eqSubS.calls (k : Nat) (A0 : Option Addr) (c0 : Nat) (l0 : List (S43)) (A1 : Option Addr) (c1 : Nat) (l1 : List (S43)) (r : Bool) (w : World) (hr0 : Kd.C k43 w A0 l0.length l0) (hc0 : l0.length ≤ c0) (hr1 : Kd.C k43 w A1 l1.length l1) (hc1 : l1.length ≤ c1) (h : laws_eqSubS.f k l0 l1 = some r) :
  Calls Try.prog 14 #[.slice A0 l0.length c0, .slice A1 l1.length c1] w fun e w' => e = .returned (.bool r) ∧ Below w.heap.size w w' := by
 have hu43 := Try.underlying43; have HR0 := Aside0.mk hr0; have HC0 := Aside0.mk hc0; clear hr0 hc0; have HR1 := Aside0.mk hr1; have HC1 := Aside0.mk hc1; clear hr1 hc1; have HB := Aside0.mk (Below.refl w.heap.size w); have H : (if (l0.length : Int) = (l1.length : Int) then (laws_eqSubS.l0 k l0 l1 0) else (some false)) = some r := h; clear h
 by_cases c3 : (l0.length : Int) = (l1.length : Int)
 case neg =>
  rw [if_neg c3] at H; have c3b0 : ((l0.length : Int) == (l1.length : Int)) = false := beq_eq_false_iff_ne.mpr c3; have c3b1 : ((l0.length : Int) != (l1.length : Int)) = true := bne_iff_ne.mpr c3
  have c3b2 : (l0.length == l1.length) = false := by first | simpa using c3 | (simp at c3 ⊢; omega)
  obtain rfl := Option.some.inj H
  go_enter Try.func14, Try.ntmps14
  go_wp2
  go_ret
  exact ⟨by first | rfl | (simp [errW_none, errW_some] <;> rfl) | (simp [*, errW_none, errW_some] <;> rfl), belowNow⟩

 rw [if_pos c3] at H; have c3b0 : ((l0.length : Int) == (l1.length : Int)) = true := beq_iff_eq.mpr c3; have c3b1 : ((l0.length : Int) != (l1.length : Int)) = false := bne_eq_false_iff_eq.mpr c3
 have c3b2 : (l0.length == l1.length) = true := by first | simpa using c3 | (simp at c3 ⊢; omega)
 clear c3
 have H' := Aside0.mk H
 clear H
 go_enter Try.func14, Try.ntmps14
 go_wp2
 go_loopg [5] k (fun kq v5 w' => ∃ (x5_1 : Int), v5 = .int .i64 x5_1 ∧ Aside0 (laws_eqSubS.l0 kq l0 l1 x5_1 = some r) ∧ Aside0 (kq ≤ k) ∧ Aside0 (Below w.heap.size w w'))
 case atStart => exact ⟨(0), (by first | rfl | (simp; done) | (simp [*]; done)), H', ⟨Nat.le_refl _⟩, ⟨belowNow⟩⟩
 case round =>
  clear H'
  (try clear c1); (try clear p2); (try clear c3); (try clear c3b0); (try clear c3b1); (try clear c3b2); obtain ⟨x5_1, rfl, HA, HK1, HB⟩ := hrel
  cases gk with
  | zero => exact absurd HA.out (by simp [laws_eqSubS.l0])
  | succ k1 =>
   have H := HA.out; clear HA; simp only [laws_eqSubS.l0] at H
   by_cases c4 : x5_1 < (l0.length : Int)
   case neg =>
    rw [if_neg c4] at H; have c4b0 : decide (x5_1 < (l0.length : Int)) = false := decide_eq_false c4; clear c4; obtain rfl := Option.some.inj H
    go_wp2
    go_ret
    exact ⟨by first | rfl | (simp [errW_none, errW_some] <;> rfl) | (simp [*, errW_none, errW_some] <;> rfl), belowNow⟩
   rw [if_pos c4] at H; have c4b0 : decide (x5_1 < (l0.length : Int)) = true := decide_eq_true c4; clear c4
   by_cases c5 : 0 ≤ x5_1
   case neg =>
    rw [if_neg c5] at H
    exact absurd H (by simp)
   rw [if_pos c5] at H; have c5b0 : decide (0 ≤ x5_1) = true := decide_eq_true c5; clear c5
   by_cases c6 : x5_1 < (l1.length : Int)
   case neg =>
    rw [if_neg c6] at H
    exact absurd H (by simp)
   rw [if_pos c6] at H; have c6b0 : decide (x5_1 < (l1.length : Int)) = true := decide_eq_true c6; clear c6; replace H := Option.bind_eq_some_iff.mp H; obtain ⟨t295, A70, H⟩ := H
   replace H : (if t295 = true then (laws_eqSubS.l0 k1 l0 l1 (wrap64 (x5_1 + 1))) else (some false)) = some r := H
   have A7 := Aside0.mk A70; clear A70
   by_cases c8 : t295 = true
   case neg =>
    replace c8 := Bool.eq_false_iff.mpr c8; subst c8
    have H1 : (some false) = some r := by rw [if_neg (show ¬ (false = true) by decide)] at H; exact H
    clear H; have H := H1; clear H1; obtain rfl := Option.some.inj H
    try go_wp2
    replace HB := Aside0.mk (below_drew1 HB.out)
    have p293 : 0 ≤ (x5_1 : Int) := of_decide_eq_true (by first | (with_reducible assumption) | assumption)
    have q293 : x5_1 < (l0.length : Int) := of_decide_eq_true (by first | (with_reducible assumption) | assumption)
    obtain ⟨ad293, A293_2, c293_2, e293, hx293_0, hx293_1, hx293_2, hl293_2, hi293_2⟩ := at_T43 HR0.out x5_1 p293 q293; have hw293_2 := hx293_2; have hw293_1 := hx293_1; have hw293_0 := hx293_0
    cases e293
    replace hx293_0 := (HB.out.cell (World.block_lt_of_cell? w _ hx293_0)).trans hx293_0; replace hx293_1 := (HB.out.cell (World.block_lt_of_cell? w _ hx293_1)).trans hx293_1; replace hx293_2 := (HB.out.cell (World.block_lt_of_cell? w _ hx293_2)).trans hx293_2; have HR293_2 := Aside0.mk hi293_2; have HC293_2 := Aside0.mk hl293_2; clear hi293_2 hl293_2; replace p293 := eq_true p293; replace q293 := eq_true q293
    have p294 : 0 ≤ (x5_1 : Int) := of_decide_eq_true (by first | (with_reducible assumption) | assumption)
    have q294 : x5_1 < (l1.length : Int) := of_decide_eq_true (by first | (with_reducible assumption) | assumption)
    obtain ⟨ad294, A294_2, c294_2, e294, hx294_0, hx294_1, hx294_2, hl294_2, hi294_2⟩ := at_T43 HR1.out x5_1 p294 q294; have hw294_2 := hx294_2; have hw294_1 := hx294_1; have hw294_0 := hx294_0
    cases e294
    replace hx294_0 := (HB.out.cell (World.block_lt_of_cell? w _ hx294_0)).trans hx294_0; replace hx294_1 := (HB.out.cell (World.block_lt_of_cell? w _ hx294_1)).trans hx294_1; replace hx294_2 := (HB.out.cell (World.block_lt_of_cell? w _ hx294_2)).trans hx294_2; have HR294_2 := Aside0.mk hi294_2; have HC294_2 := Aside0.mk hl294_2; clear hi294_2 hl294_2; replace p294 := eq_true p294; replace q294 := eq_true q294
    refine start_ (n := 10) (S := fun w' => w'.cell? (ad293.add ((x5_1).toNat * 3)) = some (.bool ((rd_T43 l0 x5_1).f0)) ∧ w'.cell? ⟨(ad293.add ((x5_1).toNat * 3)).block, (ad293.add ((x5_1).toNat * 3)).off + 1, none⟩ = some (.bool ((rd_T43 l0 x5_1).f1)) ∧ w'.cell? ⟨(ad293.add ((x5_1).toNat * 3)).block, (ad293.add ((x5_1).toNat * 3)).off + 2, none⟩ = some (.slice A293_2 ((rd_T43 l0 x5_1).f2).length c293_2) ∧ w'.cell? (ad294.add ((x5_1).toNat * 3)) = some (.bool ((rd_T43 l1 x5_1).f0)) ∧ w'.cell? ⟨(ad294.add ((x5_1).toNat * 3)).block, (ad294.add ((x5_1).toNat * 3)).off + 1, none⟩ = some (.bool ((rd_T43 l1 x5_1).f1)) ∧ w'.cell? ⟨(ad294.add ((x5_1).toNat * 3)).block, (ad294.add ((x5_1).toNat * 3)).off + 2, none⟩ = some (.slice A294_2 ((rd_T43 l1 x5_1).f2).length c294_2)) (ds := []) #[false, false, false, false, false, false, false, false, false, false] (by kernel_rfl) rfl rfl ⟨((HB.out.cell (World.block_lt_of_cell? w _ hw293_0)).trans hw293_0), ((HB.out.cell (World.block_lt_of_cell? w _ hw293_1)).trans hw293_1), ((HB.out.cell (World.block_lt_of_cell? w _ hw293_2)).trans hw293_2), ((HB.out.cell (World.block_lt_of_cell? w _ hw294_0)).trans hw294_0), ((HB.out.cell (World.block_lt_of_cell? w _ hw294_1)).trans hw294_1), ((HB.out.cell (World.block_lt_of_cell? w _ hw294_2)).trans hw294_2)⟩ (fun hHeld => ?_); refine with_tabW laws_eqSubS.tab6 laws_eqSubS.bits6 (fun HT_ HW_ => ?_)
    generalize wr.drew = w11 at HB HR293_2 HR294_2 hx293_0 hx293_1 hx293_2 hx294_0 hx294_1 hx294_2 hHeld ⊢
    refine pure_ (i := 0) (N := some 17) (v := ?_) (a' := ?_) #[true, false, false, false, false, false, false, false, false, false] rfl rfl (any_of HT_.out (by kernel_rfl)) (fun _ _ _ h => h) (Or.inl ⟨by rfl, ?_⟩) ?_ ?_
    rotate_left
    ·intro w'
     go_simp
     with_reducible rfl
    rotate_left
    ·simp only [Act.put, List.setIfInBounds_toArray, List.set_cons_zero, List.set_cons_succ, i64_w, i32_w]
     rfl
    refine pure_ (i := 1) (N := some 18) (v := ?_) (a' := ?_) #[true, true, false, false, false, false, false, false, false, false] rfl rfl (any_of HT_.out (by kernel_rfl)) (fun _ _ _ h => h) (Or.inl ⟨by rfl, ?_⟩) ?_ ?_
    rotate_left
    ·intro w'
     go_simp
     with_reducible rfl
    rotate_left
    ·simp only [Act.put, List.setIfInBounds_toArray, List.set_cons_zero, List.set_cons_succ, i64_w, i32_w]
     rfl
    refine pure_ (i := 2) (N := some 19) (v := ?_) (a' := ?_) #[true, true, true, false, false, false, false, false, false, false] rfl rfl (any_of HT_.out (by kernel_rfl)) (fun _ _ _ h => h) (Or.inl ⟨by rfl, ?_⟩) ?_ ?_
    rotate_left
    ·intro w'
     go_simp
     with_reducible rfl
    rotate_left
    ·simp only [Act.put, List.setIfInBounds_toArray, List.set_cons_zero, List.set_cons_succ, i64_w, i32_w]
     rfl
    refine pure_ (i := 4) (N := some 21) (v := ?_) (a' := ?_) #[true, true, true, false, true, false, false, false, false, false] rfl rfl (any_of HT_.out (by kernel_rfl)) (fun _ _ _ h => h) (Or.inl ⟨by rfl, ?_⟩) ?_ ?_
    rotate_left
    ·intro w'
     go_simp
     with_reducible rfl
    rotate_left
    ·simp only [Act.put, List.setIfInBounds_toArray, List.set_cons_zero, List.set_cons_succ, i64_w, i32_w]
     rfl
    refine pure_ (i := 5) (N := some 22) (v := ?_) (a' := ?_) #[true, true, true, false, true, true, false, false, false, false] rfl rfl (any_of HT_.out (by kernel_rfl)) (fun _ _ _ h => h) (Or.inl ⟨by rfl, ?_⟩) ?_ ?_
    rotate_left
    ·intro w'
     go_simp
     with_reducible rfl
    rotate_left
    ·simp only [Act.put, List.setIfInBounds_toArray, List.set_cons_zero, List.set_cons_succ, i64_w, i32_w]
     rfl
    refine pure_ (i := 6) (N := some 23) (v := ?_) (a' := ?_) #[true, true, true, false, true, true, true, false, false, false] rfl rfl (any_of HT_.out (by kernel_rfl)) (fun _ _ _ h => h) (Or.inl ⟨by rfl, ?_⟩) ?_ ?_
    rotate_left
    ·intro w'
     go_simp
     with_reducible rfl
    rotate_left
    ·simp only [Act.put, List.setIfInBounds_toArray, List.set_cons_zero, List.set_cons_succ, i64_w, i32_w]
     rfl
    refine take_ (i := 3) (N := some 20) (v := ?_) (a' := ?_) #[true, true, true, true, true, true, true, false, false, false] rfl rfl (take_ofW HT_.out HW_.out (by kernel_rfl)) (fun _ _ _ h => h) (Or.inl ⟨by rfl, ?_⟩) hHeld ?_ ?_
    rotate_left
    ·rintro w' ⟨s0, s1, s2, s3, s4, s5⟩
     go_simp
     with_reducible rfl
    rotate_left
    ·simp only [Act.put, List.setIfInBounds_toArray, List.set_cons_zero, List.set_cons_succ, i64_w, i32_w]
     rfl
    refine take_ (i := 7) (N := some 24) (v := ?_) (a' := ?_) #[true, true, true, true, true, true, true, true, false, false] rfl rfl (take_ofW HT_.out HW_.out (by kernel_rfl)) (fun _ _ _ h => h) (Or.inl ⟨by rfl, ?_⟩) hHeld ?_ ?_
    rotate_left
    ·rintro w' ⟨s0, s1, s2, s3, s4, s5⟩
     go_simp
     with_reducible rfl
    rotate_left
    ·simp only [Act.put, List.setIfInBounds_toArray, List.set_cons_zero, List.set_cons_succ, i64_w, i32_w]
     rfl
    refine one_ (i := 8) (N := some 25) #[true, true, true, true, true, true, true, true, true, false] rfl rfl (one_of HT_.out (by kernel_rfl)) (by decide) (fun K hK => ?_)
    refine goes_ Try.func44 (by kernel_rfl) rfl #[.agg #[.bool ((rd_T43 l0 x5_1).f0), .bool ((rd_T43 l0 x5_1).f1), .slice A293_2 ((rd_T43 l0 x5_1).f2).length c293_2], .agg #[.bool ((rd_T43 l1 x5_1).f0), .bool ((rd_T43 l1 x5_1).f1), .slice A294_2 ((rd_T43 l1 x5_1).f2).length c294_2]] (by rfl) rfl rfl (by (try simp only [List.map_toArray, List.map_cons, List.map_nil]); first | done | rfl | (simp only [List.length_drop, List.length_take]; rfl)) ?_
    with_reducible refine (laws_eqSub.calls k1 ((rd_T43 l0 x5_1).f0) ((rd_T43 l0 x5_1).f1) _ _ ((rd_T43 l0 x5_1).f2) ((rd_T43 l1 x5_1).f0) ((rd_T43 l1 x5_1).f1) _ _ ((rd_T43 l1 x5_1).f2) false _ ?side1 ?side2 ?side3 ?side4 A7.out).mono ?_
    (case side1 => repeat (first | exact (Kd.C_below HR293_2.out HB.out) | (with_reducible refine Kd.C_alloc ?_ _) | (with_reducible refine Kd.C_drewN ?_ _) | (with_reducible refine Kd.C_drew ?_)))
    (case side2 => exact HC293_2.out)
    (case side3 => repeat (first | exact (Kd.C_below HR294_2.out HB.out) | (with_reducible refine Kd.C_alloc ?_ _) | (with_reducible refine Kd.C_drewN ?_ _) | (with_reducible refine Kd.C_drew ?_)))
    (case side4 => exact HC294_2.out)
    rintro e w12 ⟨rfl, hb⟩
    refine ⟨_, rfl, ?_⟩
    replace HB := Aside0.mk (below_step belowNow hb); (try clear hb); (try clear hb2); (try clear hk); (try clear hi)
    refine hK.out _ _ ⟨((HB.out.cell (World.block_lt_of_cell? w _ hw293_0)).trans hw293_0), ((HB.out.cell (World.block_lt_of_cell? w _ hw293_1)).trans hw293_1), ((HB.out.cell (World.block_lt_of_cell? w _ hw293_2)).trans hw293_2), ((HB.out.cell (World.block_lt_of_cell? w _ hw294_0)).trans hw294_0), ((HB.out.cell (World.block_lt_of_cell? w _ hw294_1)).trans hw294_1), ((HB.out.cell (World.block_lt_of_cell? w _ hw294_2)).trans hw294_2)⟩ (fun hHeld => ?_)
    clear hK K
    refine norm_ (a' := ?_) ?_ ?_
    rotate_left
    ·show Act.put _ (some 25) _ = _
     simp only [Act.put, List.setIfInBounds_toArray, List.set_cons_zero, List.set_cons_succ, i64_w, i32_w]
     rfl
    refine pure_ (i := 9) (N := some 26) (v := ?_) (a' := ?_) #[true, true, true, true, true, true, true, true, true, true] rfl rfl (any_of HT_.out (by kernel_rfl)) (fun _ _ _ h => h) (Or.inl ⟨by rfl, ?_⟩) ?_ ?_
    rotate_left
    ·intro w'
     go_simp
     with_reducible rfl
    rotate_left
    ·simp only [Act.put, List.setIfInBounds_toArray, List.set_cons_zero, List.set_cons_succ, i64_w, i32_w]
     rfl
    refine done_ (done_of HT_.out (by kernel_rfl)) ?_
    try go_wp2
    go_ret
    exact ⟨by first | rfl | (simp [errW_none, errW_some] <;> rfl) | (simp [*, errW_none, errW_some] <;> rfl), belowNow⟩
   subst c8
   have H1 : (laws_eqSubS.l0 k1 l0 l1 (wrap64 (x5_1 + 1))) = some r := by rw [if_pos rfl] at H; exact H
   clear H; have H := H1; clear H1
   have H' := Aside0.mk H
   clear H
   try go_wp2
   replace HB := Aside0.mk (below_drew1 HB.out)
   have p293 : 0 ≤ (x5_1 : Int) := of_decide_eq_true (by first | (with_reducible assumption) | assumption)
   have q293 : x5_1 < (l0.length : Int) := of_decide_eq_true (by first | (with_reducible assumption) | assumption)
   obtain ⟨ad293, A293_2, c293_2, e293, hx293_0, hx293_1, hx293_2, hl293_2, hi293_2⟩ := at_T43 HR0.out x5_1 p293 q293; have hw293_2 := hx293_2; have hw293_1 := hx293_1; have hw293_0 := hx293_0
   cases e293
   replace hx293_0 := (HB.out.cell (World.block_lt_of_cell? w _ hx293_0)).trans hx293_0; replace hx293_1 := (HB.out.cell (World.block_lt_of_cell? w _ hx293_1)).trans hx293_1; replace hx293_2 := (HB.out.cell (World.block_lt_of_cell? w _ hx293_2)).trans hx293_2; have HR293_2 := Aside0.mk hi293_2; have HC293_2 := Aside0.mk hl293_2; clear hi293_2 hl293_2; replace p293 := eq_true p293; replace q293 := eq_true q293
   have p294 : 0 ≤ (x5_1 : Int) := of_decide_eq_true (by first | (with_reducible assumption) | assumption)
   have q294 : x5_1 < (l1.length : Int) := of_decide_eq_true (by first | (with_reducible assumption) | assumption)
   obtain ⟨ad294, A294_2, c294_2, e294, hx294_0, hx294_1, hx294_2, hl294_2, hi294_2⟩ := at_T43 HR1.out x5_1 p294 q294; have hw294_2 := hx294_2; have hw294_1 := hx294_1; have hw294_0 := hx294_0
   cases e294
   replace hx294_0 := (HB.out.cell (World.block_lt_of_cell? w _ hx294_0)).trans hx294_0; replace hx294_1 := (HB.out.cell (World.block_lt_of_cell? w _ hx294_1)).trans hx294_1; replace hx294_2 := (HB.out.cell (World.block_lt_of_cell? w _ hx294_2)).trans hx294_2; have HR294_2 := Aside0.mk hi294_2; have HC294_2 := Aside0.mk hl294_2; clear hi294_2 hl294_2; replace p294 := eq_true p294; replace q294 := eq_true q294
   refine start_ (n := 10) (S := fun w' => w'.cell? (ad293.add ((x5_1).toNat * 3)) = some (.bool ((rd_T43 l0 x5_1).f0)) ∧ w'.cell? ⟨(ad293.add ((x5_1).toNat * 3)).block, (ad293.add ((x5_1).toNat * 3)).off + 1, none⟩ = some (.bool ((rd_T43 l0 x5_1).f1)) ∧ w'.cell? ⟨(ad293.add ((x5_1).toNat * 3)).block, (ad293.add ((x5_1).toNat * 3)).off + 2, none⟩ = some (.slice A293_2 ((rd_T43 l0 x5_1).f2).length c293_2) ∧ w'.cell? (ad294.add ((x5_1).toNat * 3)) = some (.bool ((rd_T43 l1 x5_1).f0)) ∧ w'.cell? ⟨(ad294.add ((x5_1).toNat * 3)).block, (ad294.add ((x5_1).toNat * 3)).off + 1, none⟩ = some (.bool ((rd_T43 l1 x5_1).f1)) ∧ w'.cell? ⟨(ad294.add ((x5_1).toNat * 3)).block, (ad294.add ((x5_1).toNat * 3)).off + 2, none⟩ = some (.slice A294_2 ((rd_T43 l1 x5_1).f2).length c294_2)) (ds := []) #[false, false, false, false, false, false, false, false, false, false] (by kernel_rfl) rfl rfl ⟨((HB.out.cell (World.block_lt_of_cell? w _ hw293_0)).trans hw293_0), ((HB.out.cell (World.block_lt_of_cell? w _ hw293_1)).trans hw293_1), ((HB.out.cell (World.block_lt_of_cell? w _ hw293_2)).trans hw293_2), ((HB.out.cell (World.block_lt_of_cell? w _ hw294_0)).trans hw294_0), ((HB.out.cell (World.block_lt_of_cell? w _ hw294_1)).trans hw294_1), ((HB.out.cell (World.block_lt_of_cell? w _ hw294_2)).trans hw294_2)⟩ (fun hHeld => ?_); refine with_tabW laws_eqSubS.tab6 laws_eqSubS.bits6 (fun HT_ HW_ => ?_)
   generalize wr.drew = w9 at HB HR293_2 HR294_2 hx293_0 hx293_1 hx293_2 hx294_0 hx294_1 hx294_2 hHeld ⊢
   refine pure_ (i := 0) (N := some 17) (v := ?_) (a' := ?_) #[true, false, false, false, false, false, false, false, false, false] rfl rfl (any_of HT_.out (by kernel_rfl)) (fun _ _ _ h => h) (Or.inl ⟨by rfl, ?_⟩) ?_ ?_
   rotate_left
   ·intro w'
    go_simp
    with_reducible rfl
   rotate_left
   ·simp only [Act.put, List.setIfInBounds_toArray, List.set_cons_zero, List.set_cons_succ, i64_w, i32_w]
    rfl
   refine pure_ (i := 1) (N := some 18) (v := ?_) (a' := ?_) #[true, true, false, false, false, false, false, false, false, false] rfl rfl (any_of HT_.out (by kernel_rfl)) (fun _ _ _ h => h) (Or.inl ⟨by rfl, ?_⟩) ?_ ?_
   rotate_left
   ·intro w'
    go_simp
    with_reducible rfl
   rotate_left
   ·simp only [Act.put, List.setIfInBounds_toArray, List.set_cons_zero, List.set_cons_succ, i64_w, i32_w]
    rfl
   refine pure_ (i := 2) (N := some 19) (v := ?_) (a' := ?_) #[true, true, true, false, false, false, false, false, false, false] rfl rfl (any_of HT_.out (by kernel_rfl)) (fun _ _ _ h => h) (Or.inl ⟨by rfl, ?_⟩) ?_ ?_
   rotate_left
   ·intro w'
    go_simp
    with_reducible rfl
   rotate_left
   ·simp only [Act.put, List.setIfInBounds_toArray, List.set_cons_zero, List.set_cons_succ, i64_w, i32_w]
    rfl
   refine pure_ (i := 4) (N := some 21) (v := ?_) (a' := ?_) #[true, true, true, false, true, false, false, false, false, false] rfl rfl (any_of HT_.out (by kernel_rfl)) (fun _ _ _ h => h) (Or.inl ⟨by rfl, ?_⟩) ?_ ?_
   rotate_left
   ·intro w'
    go_simp
    with_reducible rfl
   rotate_left
   ·simp only [Act.put, List.setIfInBounds_toArray, List.set_cons_zero, List.set_cons_succ, i64_w, i32_w]
    rfl
   refine pure_ (i := 5) (N := some 22) (v := ?_) (a' := ?_) #[true, true, true, false, true, true, false, false, false, false] rfl rfl (any_of HT_.out (by kernel_rfl)) (fun _ _ _ h => h) (Or.inl ⟨by rfl, ?_⟩) ?_ ?_
   rotate_left
   ·intro w'
    go_simp
    with_reducible rfl
   rotate_left
   ·simp only [Act.put, List.setIfInBounds_toArray, List.set_cons_zero, List.set_cons_succ, i64_w, i32_w]
    rfl
   refine pure_ (i := 6) (N := some 23) (v := ?_) (a' := ?_) #[true, true, true, false, true, true, true, false, false, false] rfl rfl (any_of HT_.out (by kernel_rfl)) (fun _ _ _ h => h) (Or.inl ⟨by rfl, ?_⟩) ?_ ?_
   rotate_left
   ·intro w'
    go_simp
    with_reducible rfl
   rotate_left
   ·simp only [Act.put, List.setIfInBounds_toArray, List.set_cons_zero, List.set_cons_succ, i64_w, i32_w]
    rfl
   refine take_ (i := 3) (N := some 20) (v := ?_) (a' := ?_) #[true, true, true, true, true, true, true, false, false, false] rfl rfl (take_ofW HT_.out HW_.out (by kernel_rfl)) (fun _ _ _ h => h) (Or.inl ⟨by rfl, ?_⟩) hHeld ?_ ?_
   rotate_left
   ·rintro w' ⟨s0, s1, s2, s3, s4, s5⟩
    go_simp
    with_reducible rfl
   rotate_left
   ·simp only [Act.put, List.setIfInBounds_toArray, List.set_cons_zero, List.set_cons_succ, i64_w, i32_w]
    rfl
   refine take_ (i := 7) (N := some 24) (v := ?_) (a' := ?_) #[true, true, true, true, true, true, true, true, false, false] rfl rfl (take_ofW HT_.out HW_.out (by kernel_rfl)) (fun _ _ _ h => h) (Or.inl ⟨by rfl, ?_⟩) hHeld ?_ ?_
   rotate_left
   ·rintro w' ⟨s0, s1, s2, s3, s4, s5⟩
    go_simp
    with_reducible rfl
   rotate_left
   ·simp only [Act.put, List.setIfInBounds_toArray, List.set_cons_zero, List.set_cons_succ, i64_w, i32_w]
    rfl
   refine one_ (i := 8) (N := some 25) #[true, true, true, true, true, true, true, true, true, false] rfl rfl (one_of HT_.out (by kernel_rfl)) (by decide) (fun K hK => ?_)
   refine goes_ Try.func44 (by kernel_rfl) rfl #[.agg #[.bool ((rd_T43 l0 x5_1).f0), .bool ((rd_T43 l0 x5_1).f1), .slice A293_2 ((rd_T43 l0 x5_1).f2).length c293_2], .agg #[.bool ((rd_T43 l1 x5_1).f0), .bool ((rd_T43 l1 x5_1).f1), .slice A294_2 ((rd_T43 l1 x5_1).f2).length c294_2]] (by rfl) rfl rfl (by (try simp only [List.map_toArray, List.map_cons, List.map_nil]); first | done | rfl | (simp only [List.length_drop, List.length_take]; rfl)) ?_
   with_reducible refine (laws_eqSub.calls k1 ((rd_T43 l0 x5_1).f0) ((rd_T43 l0 x5_1).f1) _ _ ((rd_T43 l0 x5_1).f2) ((rd_T43 l1 x5_1).f0) ((rd_T43 l1 x5_1).f1) _ _ ((rd_T43 l1 x5_1).f2) true _ ?side1 ?side2 ?side3 ?side4 A7.out).mono ?_
   (case side1 => repeat (first | exact (Kd.C_below HR293_2.out HB.out) | (with_reducible refine Kd.C_alloc ?_ _) | (with_reducible refine Kd.C_drewN ?_ _) | (with_reducible refine Kd.C_drew ?_)))
   (case side2 => exact HC293_2.out)
   (case side3 => repeat (first | exact (Kd.C_below HR294_2.out HB.out) | (with_reducible refine Kd.C_alloc ?_ _) | (with_reducible refine Kd.C_drewN ?_ _) | (with_reducible refine Kd.C_drew ?_)))
   (case side4 => exact HC294_2.out)
   rintro e w10 ⟨rfl, hb⟩
   refine ⟨_, rfl, ?_⟩
   replace HB := Aside0.mk (below_step belowNow hb); (try clear hb); (try clear hb2); (try clear hk); (try clear hi)
   refine hK.out _ _ ⟨((HB.out.cell (World.block_lt_of_cell? w _ hw293_0)).trans hw293_0), ((HB.out.cell (World.block_lt_of_cell? w _ hw293_1)).trans hw293_1), ((HB.out.cell (World.block_lt_of_cell? w _ hw293_2)).trans hw293_2), ((HB.out.cell (World.block_lt_of_cell? w _ hw294_0)).trans hw294_0), ((HB.out.cell (World.block_lt_of_cell? w _ hw294_1)).trans hw294_1), ((HB.out.cell (World.block_lt_of_cell? w _ hw294_2)).trans hw294_2)⟩ (fun hHeld => ?_)
   clear hK K
   refine norm_ (a' := ?_) ?_ ?_
   rotate_left
   ·show Act.put _ (some 25) _ = _
    simp only [Act.put, List.setIfInBounds_toArray, List.set_cons_zero, List.set_cons_succ, i64_w, i32_w]
    rfl
   refine pure_ (i := 9) (N := some 26) (v := ?_) (a' := ?_) #[true, true, true, true, true, true, true, true, true, true] rfl rfl (any_of HT_.out (by kernel_rfl)) (fun _ _ _ h => h) (Or.inl ⟨by rfl, ?_⟩) ?_ ?_
   rotate_left
   ·intro w'
    go_simp
    with_reducible rfl
   rotate_left
   ·simp only [Act.put, List.setIfInBounds_toArray, List.set_cons_zero, List.set_cons_succ, i64_w, i32_w]
    rfl
   refine done_ (done_of HT_.out (by kernel_rfl)) ?_
   try go_wp2
   go_roundg k1
   case measure => have := HK1.out; omega
   case rel => exact ⟨(wrap64 (x5_1 + 1)), (by first | rfl | (simp; done) | (simp [*]; done)), H', ⟨by have := HK1.out; omega⟩, ⟨belowNow⟩⟩
/-! ### laws_markFeatureS: function 45 -/
def laws_markFeatureS.l0 : Nat → List (S45) → Int → Int → Option (Int × (List (S45)))
 | 0, _, _, _ => none
 | k + 1, x0, x1, x5 => if x5 < (x0.length : Int) then (if 0 ≤ x5 then ((some (x0.set (x5 : Int).toNat (⟨x1, (rd_T45 x0 x5).f1⟩ : S45) : List (S45))).bind fun y296 => (laws_markFeatureS.l0 k (y296.set (x5 : Int).toNat (⟨(rd_T45 y296 x5).f0, wrap64 (x1 + 1)⟩ : S45)) (wrap64 ((wrap64 (x1 + 1)) + 1)) (wrap64 (x5 + 1)))) else (none)) else (some (x1, x0))
def laws_markFeatureS.f (k : Nat) (l0 : List (S45)) (a1 : Int) : Option (Int × (List (S45))) := laws_markFeatureS.l0 k l0 a1 0
theorem laws_markFeatureS.mono_l : ∀ k, (∀ y0 y1 y2, LeO (laws_markFeatureS.l0 k y0 y1 y2) (laws_markFeatureS.l0 (k + 1) y0 y1 y2))
 | 0 => fun _ _ _ r h => by simp [laws_markFeatureS.l0] at h
 | k + 1 => by
  have ih0 := laws_markFeatureS.mono_l k
  ·intro y0 y1 y2
   unfold laws_markFeatureS.l0
   repeat' first
   | (with_reducible exact ih0 _ _ _)
   | (with_reducible exact LeO.refl _)
   | (with_reducible exact LeO.none _)
   | (with_reducible refine LeO.ite ?_ ?_)
   | (with_reducible refine LeO.bind ?_ (fun _ => ?_))
   | exact ih0 _ _ _
   | exact LeO.none _
   | refine LeO.ite ?_ ?_
   | refine LeO.bind ?_ (fun _ => ?_)
theorem laws_markFeatureS.mono : ∀ a0 a1 k, LeO (laws_markFeatureS.f k a0 a1) (laws_markFeatureS.f (k + 1) a0 a1) := by
 intro a0 a1 k
 have ih0 := laws_markFeatureS.mono_l k
 unfold laws_markFeatureS.f
 repeat' first
   | (with_reducible exact ih0 _ _ _)
   | (with_reducible exact LeO.refl _)
   | (with_reducible exact LeO.none _)
   | (with_reducible refine LeO.ite ?_ ?_)
   | (with_reducible refine LeO.bind ?_ (fun _ => ?_))
   | exact ih0 _ _ _
   | exact LeO.none _
   | refine LeO.ite ?_ ?_
   | refine LeO.bind ?_ (fun _ => ?_)
set_option maxHeartbeats 8000000 in
set_option maxRecDepth 100000 in
theorem laws_markFeatureS.calls (k : Nat) (P0_ : Nat → Prop) (u9000_ : Value) (l0 : List (S45)) (a1 : Int) (r1 : Int) (r2 : List (S45)) (w0 w : World) (hB : Below w0.heap.size w0 w) (ho0 : Kd.R k45 45 w w0.heap.size P0_ u9000_ l0) (h : laws_markFeatureS.f k l0 a1 = some (r1, r2)) :
  Calls Try.prog 45 #[u9000_, .int .i64 a1] w fun e w' => e = .returned (.int .i64 r1) ∧ Kd.R k45 45 w' w0.heap.size (fun k_ => (P0_ k_ ∨ w.heap.size ≤ k_)) u9000_ r2 ∧ Below w0.heap.size w0 w' ∧ Kept w w' (fun k_ => P0_ k_) := by
 have HO0 := Aside0.mk (show Kd.R k45 45 w w0.heap.size (fun k_ => (P0_ k_ ∨ w.heap.size ≤ k_)) u9000_ l0 from Kd.R_mono ho0 (fun k_ hk => (.inl hk)))
 have HK := Aside0.mk (Kept.refl w (fun k_ => P0_ k_))
 have HW0 := Aside0.mk hB.size; have HB := Aside0.mk hB; clear hB; have H : (laws_markFeatureS.l0 k l0 a1 0) = some (r1, r2) := h; clear h
 have H' := Aside0.mk H
 clear H
 go_enter Try.func45, Try.ntmps45
 go_wp2
 go_loopg [1, 5] k (fun kq v1 v5 w' => ∃ (x0_1 : List (S45)) (x1_1 : Int) (x5_1 : Int), v1 = .int .i64 x1_1 ∧ v5 = .int .i64 x5_1 ∧ Aside0 (laws_markFeatureS.l0 kq x0_1 x1_1 x5_1 = some (r1, r2)) ∧ Aside0 (kq ≤ k) ∧ Aside0 (Kd.R k45 45 w' w0.heap.size (fun k_ => (P0_ k_ ∨ w.heap.size ≤ k_)) u9000_ x0_1) ∧ Aside0 (Kept w w' (fun k_ => P0_ k_)) ∧ Aside0 (Below w0.heap.size w0 w'))
 case atStart => exact ⟨(l0), (a1), (0), (by first | rfl | (simp; done) | (simp [*]; done)), (by first | rfl | (simp; done) | (simp [*]; done)), H', ⟨Nat.le_refl _⟩, ⟨by (with_reducible repeat (first | apply Kd.R_alloc | apply Kd.R_drewN | apply Kd.R_drew)); exact HO0.out⟩, ⟨by repeat (first | (with_reducible first | exact HK.out | apply Kept.alloc | apply Kept.drewN | apply Kept.drew) | exact HK.out)⟩, ⟨belowNow⟩⟩
 case round =>
  clear H'
  (try clear p2); obtain ⟨x0_1, x1_1, x5_1, rfl, rfl, HA, HK1, HO_0, HK, HB⟩ := hrel
  cases gk with
  | zero => exact absurd HA.out (by simp [laws_markFeatureS.l0])
  | succ k1 =>
   have H := HA.out; clear HA; simp only [laws_markFeatureS.l0] at H
   by_cases c3 : x5_1 < (x0_1.length : Int)
   case neg =>
    rw [if_neg c3] at H; have c3b0 : decide (x5_1 < (x0_1.length : Int)) = false := decide_eq_false c3; clear c3; simp only [Option.some.injEq, Prod.mk.injEq] at H; obtain ⟨rfl, rfl⟩ := H; obtain ⟨Ao12, co12, eo12⟩ := Kd.R_slice HO_0.out; subst eo12
    go_wp2
    go_ret
    exact ⟨by first | rfl | (simp [errW_none, errW_some] <;> rfl) | (simp [*, errW_none, errW_some] <;> rfl), by (with_reducible repeat (first | apply Kd.R_alloc | apply Kd.R_drewN | apply Kd.R_drew)); exact HO_0.out, belowNow, by repeat (first | (with_reducible first | exact HK.out | apply Kept.alloc | apply Kept.drewN | apply Kept.drew) | exact HK.out)⟩

   rw [if_pos c3] at H; have c3b0 : decide (x5_1 < (x0_1.length : Int)) = true := decide_eq_true c3; clear c3
   by_cases c4 : 0 ≤ x5_1
   case neg =>
    rw [if_neg c4] at H
    exact absurd H (by simp)
   rw [if_pos c4] at H; have c4b0 : decide (0 ≤ x5_1) = true := decide_eq_true c4; clear c4; obtain ⟨y296, hy296⟩ : ∃ y_ : List (S45), y_ = (x0_1.set (x5_1 : Int).toNat (⟨x1_1, (rd_T45 x0_1 x5_1).f1⟩ : S45)) := ⟨_, rfl⟩
   replace H : (laws_markFeatureS.l0 k1 (y296.set (x5_1 : Int).toNat (⟨(rd_T45 y296 x5_1).f0, wrap64 (x1_1 + 1)⟩ : S45)) (wrap64 ((wrap64 (x1_1 + 1)) + 1)) (wrap64 (x5_1 + 1))) = some (r1, r2) := by first | (rw [hy296]; with_reducible exact H) | (have H2_ := (Option.bind_some _ _).symm.trans H; rw [hy296]; with_reducible exact H2_) | (have H2_ := (Option.bind_some _ _).symm.trans H; with_reducible exact H2_) | with_reducible exact H | (rw [hy296]; exact H) | exact H
   have Ny296 := Aside0.mk hy296; clear hy296; obtain ⟨y297, hy297⟩ : ∃ y_ : List (S45), y_ = (y296.set (x5_1 : Int).toNat (⟨(rd_T45 y296 x5_1).f0, wrap64 (x1_1 + 1)⟩ : S45)) := ⟨_, rfl⟩
   replace H : (laws_markFeatureS.l0 k1 y297 (wrap64 ((wrap64 (x1_1 + 1)) + 1)) (wrap64 (x5_1 + 1))) = some (r1, r2) := by first | (rw [hy297]; with_reducible exact H) | (have H2_ := (Option.bind_some _ _).symm.trans H; rw [hy297]; with_reducible exact H2_) | (have H2_ := (Option.bind_some _ _).symm.trans H; with_reducible exact H2_) | with_reducible exact H | (rw [hy297]; exact H) | exact H
   have Ny297 := Aside0.mk hy297; clear hy297
   have H' := Aside0.mk H
   clear H; obtain ⟨Ao7, co7, eo7⟩ := Kd.R_slice HO_0.out; subst eo7
   have p5 : 0 ≤ (x5_1 : Int) := of_decide_eq_true (by first | (with_reducible assumption) | assumption)
   have q5 : (x5_1 : Int) < ((x0_1.length : Int) : Int) := of_decide_eq_true (by first | (with_reducible assumption) | assumption)
   obtain ⟨go5, co5, eo5, gb5, gl5, cl5, HG5⟩ := Kd.R_form HO_0.out (by omega)
   (first | cases eo5 | (injection eo5 with ea_ en_ ec_; (first | subst ea_ | (injection ea_ with ea_; subst ea_)); subst ec_; clear en_))
   have GB5 := Aside0.mk gb5; have GG5 := Aside0.mk HG5; clear gb5 gl5 HG5; have HMgo5 := Aside0.mk (show (P0_ go5 ∨ w.heap.size ≤ go5) from (HO_0.out.1 _ rfl)); obtain ⟨ce5, hcl5, hM5, hcc5, hfr5⟩ := Kd.R_elem HO_0.out z45 (x5_1 : Int) p5 q5; obtain rfl := k45_openM hM5; have hx5_0 : wr.cell? ⟨go5, (x5_1 : Int).toNat * 2, none⟩ = some (.int .i64 ((rd_T45 x0_1 x5_1).f0)) := hcc5 0 _ rfl; have hx5_1 : wr.cell? ⟨go5, (x5_1 : Int).toNat * 2 + 1, none⟩ = some (.int .i64 ((rd_T45 x0_1 x5_1).f1)) := hcc5 1 _ rfl; have hf5_0 : wr.frozen? ⟨go5, (x5_1 : Int).toNat * 2, none⟩ = false := hfr5 0; have hf5_1 : wr.frozen? ⟨go5, (x5_1 : Int).toNat * 2 + 1, none⟩ = false := hfr5 1; clear hcl5 hcc5 hfr5 hM5; replace p5 := eq_true p5; replace q5 := eq_true q5
   have HX8 := Aside0.mk (show Kd.R k45 45 wr w0.heap.size (fun k_ => (P0_ k_ ∨ w.heap.size ≤ k_)) (.slice (some ⟨go5, 0, none⟩) x0_1.length co7) x0_1 from (pR_ HO_0.out))
   obtain ⟨ce8, hcl8, hM8, hcc8, hfr8⟩ := Kd.R_elem HX8.out z45 (x5_1 : Int) (of_decide_eq_true (by first | (with_reducible assumption) | assumption)) (by have h_ : (x5_1 : Int) < ((x0_1.length : Int) : Int) := of_decide_eq_true (by first | (with_reducible assumption) | assumption); first | exact h_ | (have e_ := (Kd.R_reads' HO_0.out).1; omega) | simpa using h_)
   obtain rfl := k45_openM hM8
   have HP8 := Kd.R_seg HX8.out (x5_1 : Int) (of_decide_eq_true (by first | (with_reducible assumption) | assumption)) (by have h_ : (x5_1 : Int) < ((x0_1.length : Int) : Int) := of_decide_eq_true (by first | (with_reducible assumption) | assumption); first | exact h_ | (have e_ := (Kd.R_reads' HO_0.out).1; omega) | simpa using h_) (seg := [.int .i64 x1_1]) (j := 0) hcl8 hcc8 (show 1 ≤ 2 from by decide) (x' := (⟨x1_1, (rd_T45 x0_1 x5_1).f1⟩ : S45)) (k45_mkM _ _ _ (⟨x1_1, (rd_T45 x0_1 x5_1).f1⟩ : S45) ) (fun _ hk => hk)
   have hx8_0 := hcc8 0 _ rfl
   (try simp only [show (k45).sz = 2 from rfl, Nat.mul_one, Nat.add_zero] at hx8_0)
   have hf8_0 := hfr8 0
   (try simp only [show (k45).sz = 2 from rfl, Nat.mul_one, Nat.add_zero] at hf8_0)
   clear hcl8 hcc8 hfr8 hM8
   go_wp2_with (first | ((with_reducible refine gate_store (t := 3) (p := 16) rfl ?_); refine store_event (t := 3) (p := 16) (v := ?vo_w9) (w1 := (wr.setCell ⟨go5, (x5_1 : Int).toNat * 2, none⟩ (.int .i64 x1_1))) ?hg ?ho ?hn ?hr ?_; (case ho => rfl); (case hg => rfl); (case hn => rfl); (case hr => first | (go_simp; done) | (go_simp; rfl)); intro w9 hw; have hg : wr.grownBy w9 (some go5) := (by rw [hw]; exact HP8.2); have hp_ : Kd.R k45 45 w9 w0.heap.size (fun k_ => (P0_ k_ ∨ w.heap.size ≤ k_)) (.slice (some ⟨go5, 0, none⟩) x0_1.length co7) y296 := (by rw [hw, Ny296.out]; exact HP8.1); clear HP8; have n0_ := Aside0.mk (hp_); have n1_ := Aside0.mk ((by rw [hw]; exact below_set (HB.out) GB5.out : Below w0.heap.size w0 w9)); have n2_ := Aside0.mk (Kept.of_grown (S := (fun k_ => P0_ k_)) hg (by repeat (first | (with_reducible first | exact HK.out | apply Kept.alloc | apply Kept.drewN | apply Kept.drew) | exact HK.out)) (fun k_ e_ => (HO_0.out.1 k_ e_))); clear HO_0; clear HB; clear HK; have HO_0 := n0_; have HB := n1_; have HK := n2_; clear n0_ n1_ n2_; clear hg hw hp_; have p6 : 0 ≤ (x5_1 : Int) := of_decide_eq_true (by first | (with_reducible assumption) | assumption); have q6 : (x5_1 : Int) < ((x0_1.length : Int) : Int) := of_decide_eq_true (by first | (with_reducible assumption) | assumption); obtain ⟨ce6, hcl6, hM6, hcc6, hfr6⟩ := Kd.R_elem HO_0.out z45 (x5_1 : Int) p6 q6; obtain rfl := k45_openM hM6; have hx6_0 : w9.cell? ⟨go5, (x5_1 : Int).toNat * 2, none⟩ = some (.int .i64 ((rd_T45 y296 x5_1).f0)) := hcc6 0 _ rfl; have hx6_1 : w9.cell? ⟨go5, (x5_1 : Int).toNat * 2 + 1, none⟩ = some (.int .i64 ((rd_T45 y296 x5_1).f1)) := hcc6 1 _ rfl; have hf6_0 : w9.frozen? ⟨go5, (x5_1 : Int).toNat * 2, none⟩ = false := hfr6 0; have hf6_1 : w9.frozen? ⟨go5, (x5_1 : Int).toNat * 2 + 1, none⟩ = false := hfr6 1; clear hcl6 hcc6 hfr6 hM6; replace p6 := eq_true p6; replace q6 := eq_true q6; have HX10 := Aside0.mk (show Kd.R k45 45 w9 w0.heap.size (fun k_ => (P0_ k_ ∨ w.heap.size ≤ k_)) (.slice (some ⟨go5, 0, none⟩) x0_1.length co7) y296 from (pR_ HO_0.out)); obtain ⟨ce10, hcl10, hM10, hcc10, hfr10⟩ := Kd.R_elem HX10.out z45 (x5_1 : Int) (of_decide_eq_true (by first | (with_reducible assumption) | assumption)) (by have h_ : (x5_1 : Int) < ((x0_1.length : Int) : Int) := of_decide_eq_true (by first | (with_reducible assumption) | assumption); first | exact h_ | (have e_ := (Kd.R_reads' HO_0.out).1; omega) | simpa using h_); obtain rfl := k45_openM hM10; have HP10 := Kd.R_seg HX10.out (x5_1 : Int) (of_decide_eq_true (by first | (with_reducible assumption) | assumption)) (by have h_ : (x5_1 : Int) < ((x0_1.length : Int) : Int) := of_decide_eq_true (by first | (with_reducible assumption) | assumption); first | exact h_ | (have e_ := (Kd.R_reads' HO_0.out).1; omega) | simpa using h_) (seg := [.int .i64 (wrap64 (x1_1 + 1))]) (j := 1) hcl10 hcc10 (show 2 ≤ 2 from by decide) (x' := (⟨(rd_T45 y296 x5_1).f0, wrap64 (x1_1 + 1)⟩ : S45)) (k45_mkM _ _ _ (⟨(rd_T45 y296 x5_1).f0, wrap64 (x1_1 + 1)⟩ : S45) ) (fun _ hk => hk); have hx10_1 := hcc10 1 _ rfl; (try simp only [show (k45).sz = 2 from rfl, Nat.mul_one, Nat.add_zero] at hx10_1); have hf10_1 := hfr10 1; (try simp only [show (k45).sz = 2 from rfl, Nat.mul_one, Nat.add_zero] at hf10_1); clear hcl10 hcc10 hfr10 hM10) | ((with_reducible refine gate_store (t := 3) (p := 23) rfl ?_); refine store_event (t := 3) (p := 23) (v := ?vo_w11) (w1 := (w9.setCell ⟨go5, (x5_1 : Int).toNat * 2 + 1, none⟩ (.int .i64 (wrap64 (x1_1 + 1))))) ?hg ?ho ?hn ?hr ?_; (case ho => rfl); (case hg => rfl); (case hn => rfl); (case hr => first | (go_simp; done) | (go_simp; rfl)); intro w11 hw; have hg : w9.grownBy w11 (some go5) := (by rw [hw]; exact HP10.2); have hp_ : Kd.R k45 45 w11 w0.heap.size (fun k_ => (P0_ k_ ∨ w.heap.size ≤ k_)) (.slice (some ⟨go5, 0, none⟩) x0_1.length co7) y297 := (by rw [hw, Ny297.out]; exact HP10.1); clear HP10; have n0_ := Aside0.mk (hp_); have n1_ := Aside0.mk ((by rw [hw]; exact below_set (HB.out) GB5.out : Below w0.heap.size w0 w11)); have n2_ := Aside0.mk (Kept.of_grown (S := (fun k_ => P0_ k_)) hg (by repeat (first | (with_reducible first | exact HK.out | apply Kept.alloc | apply Kept.drewN | apply Kept.drew) | exact HK.out)) (fun k_ e_ => (HO_0.out.1 k_ e_))); clear HO_0; clear HB; clear HK; have HO_0 := n0_; have HB := n1_; have HK := n2_; clear n0_ n1_ n2_; clear hg hw hp_))
   go_roundg k1
   case measure => have := HK1.out; omega
   case rel => exact ⟨(y297), (wrap64 ((wrap64 (x1_1 + 1)) + 1)), (wrap64 (x5_1 + 1)), (by first | rfl | (simp; done) | (simp [*]; done)), (by first | rfl | (simp; done) | (simp [*]; done)), H', ⟨by have := HK1.out; omega⟩, ⟨by (with_reducible repeat (first | apply Kd.R_alloc | apply Kd.R_drewN | apply Kd.R_drew)); exact HO_0.out⟩, ⟨by repeat (first | (with_reducible first | exact HK.out | apply Kept.alloc | apply Kept.drewN | apply Kept.drew) | exact HK.out)⟩, ⟨belowNow⟩⟩
/-! ### laws_markSubS: function 15 -/
def laws_markSubS.sum : List S43 → Int
 | [] => 0
 | s :: r => 2 + 2 * (s.f2.length : Int) + laws_markSubS.sum r
def laws_markSubS.f (l0 : List S43) (a1 : Int) : Option Int := if 0 ≤ a1 ∧ a1 + laws_markSubS.sum l0 ≤ 1000000000000 then some (a1 + laws_markSubS.sum l0) else none
/-- The blocks that a marking of such a row may change. -/
def laws_markSubS.Of (w : World) (k : Nat) : Prop := ∃ cells q, w.heap[k]? = some (.cells cells q (0, 0)) ∧ (q = 43 ∨ q = 45)
theorem laws_markSubS.R3 {w w' : World} {base : Nat} {ok : Nat → Prop} {v : Value} {xs : List Int} (h : Kd.R (Kd.int .i64) 3 w base ok v xs) (hk : Kept w w' (laws_markSubS.Of w)) : Kd.R (Kd.int .i64) 3 w' base ok v xs := by
 refine Kd.R_mono (Kd.R_kept (Kd.R_bound h) hk ?_) (fun _ hk => hk.1)
 rintro k ⟨_, _, _, q, hq, cells, hc⟩ ⟨cells', q', hc', hq'⟩
 rw [hc] at hc'
 cases hc'
 rcases List.mem_cons.mp hq with rfl | hq
 ·rcases hq' with h | h <;> cases h
 ·exact absurd hq (by simp [Kd.int, Kd.scalar])
theorem laws_markSubS.B26 {w w' : World} {g : Nat} {cs : Array Value} (h : w.heap[g]? = some (.cells cs 26 (0, 0))) (hk : Kept w w' (laws_markSubS.Of w)) : w'.heap[g]? = some (.cells cs 26 (0, 0)) := by
 refine blk_kept h hk ?_
 rintro ⟨cells', q', hc', hq'⟩
 rw [h] at hc'
 cases hc'
 rcases hq' with h | h <;> cases h
theorem laws_markSubS.sum_nn : ∀ l, 0 ≤ laws_markSubS.sum l
 | [] => Int.le_refl _
 | s :: r => by
  have := laws_markSubS.sum_nn r
  simp only [laws_markSubS.sum]
  omega
theorem laws_markSubS.drop_sum : ∀ (l : List S43) (i : Nat), i < l.length → laws_markSubS.sum (l.drop i) = 2 + 2 * ((l.getD i z43).f2.length : Int) + laws_markSubS.sum (l.drop (i + 1))
 | s :: r, 0, _ => by simp [laws_markSubS.sum]
 | s :: r, i + 1, h => by
  have := laws_markSubS.drop_sum r i (by simpa using h)
  simpa using this
theorem laws_markSubS.w64 (n : Int) (h : -9223372036854775808 ≤ n) (h' : n ≤ 9223372036854775807) : wrap64 n = n := by
 unfold wrap64
 omega
/-- What the features' marking tells. -/
theorem laws_markSubS.fe : ∀ (n : Nat) (l : List S45) (a x : Int), 0 ≤ a → 0 ≤ x → x ≤ l.length → (l.length : Int) - x ≤ n → a + 2 * ((l.length : Int) - x) ≤ 1000000000000 → (l.length : Int) ≤ 1000000000000 → ∃ l', l'.length = l.length ∧ laws_markFeatureS.l0 (n + 1) l a x = some (a + 2 * ((l.length : Int) - x), l')
 | 0, l, a, x, h0, h1, h2, h3, h4, h5 => ⟨l, rfl, by
  have e : x = l.length := by omega
  subst e
  simp [laws_markFeatureS.l0]⟩
 | n + 1, l, a, x, h0, h1, h2, h3, h4, h5 => by
  by_cases c : x < (l.length : Int)
  ·obtain ⟨l', hl, e⟩ := laws_markSubS.fe n ((l.set x.toNat ⟨a, (rd_T45 l x).f1⟩).set x.toNat ⟨(rd_T45 (l.set x.toNat ⟨a, (rd_T45 l x).f1⟩) x).f0, wrap64 (a + 1)⟩) (a + 2) (x + 1) (by omega) (by omega) (by simp; omega) (by simp; omega) (by simp; omega) (by simp; omega)
   refine ⟨l', by simpa using hl, ?_⟩
   have w0 : wrap64 (a + 1) = a + 1 := laws_markSubS.w64 _ (by omega) (by omega)
   have w1 : wrap64 (wrap64 (a + 1) + 1) = a + 2 := by rw [w0, laws_markSubS.w64 _ (by omega) (by omega)]; omega
   have w2 : wrap64 (x + 1) = x + 1 := laws_markSubS.w64 _ (by omega) (by omega)
   rw [laws_markFeatureS.l0, if_pos c, if_pos h1, Option.bind_some, w1, w2, e]
   simp only [List.length_set, Option.some.injEq, Prod.mk.injEq, and_true]
   omega
  ·have e : x = l.length := by omega
   subst e
   exact ⟨l, rfl, by simp [laws_markFeatureS.l0]⟩
theorem laws_markSubS.R45 {W : World} {base : Nat} {ok ok' : Nat → Prop} {v : Value} {ys : List S45} (h : Kd.R k45 45 W base ok v ys) (h' : ∀ k, v.ownBlock = some k → ok' k) : Kd.R k45 45 W base ok' v ys := ⟨h', h.2.imp_ (fun _ _ hp => k45_openM hp ▸ k45_mkM _ _ _ _)⟩
theorem laws_markSubS.own45 {W : World} {base : Nat} {ok : Nat → Prop} {v : Value} {ys : List S45} (h : Kd.R k45 45 W base ok v ys) {k : Nat} (hk : v.ownBlock = some k) : ∃ cells, W.heap[k]? = some (.cells cells 45 (0, 0)) := by
 obtain ⟨_, inner, ho, _⟩ := h
 exact own_typed ho k hk
/-- The row as the marking finds it, round by round: the third cells never change. -/
def laws_markSubS.Row (W : World) (base : Nat) (f : Nat → Nat) (vs : Nat → Value) (l : List S43) (g : Nat) : Prop :=
 base ≤ g ∧ ∃ cur, W.heap[g]? = some (.cells cur 43 (0, 0)) ∧ ∀ i, i < l.length → (∃ b1 b2, cur[i * 3]? = some (.bool b1) ∧ cur[i * 3 + 1]? = some (.bool b2)) ∧ cur[i * 3 + 2]? = some (vs i) ∧ ∃ ys, ys.length = (l.getD i z43).f2.length ∧ Kd.R k45 45 W base (fun k => f k = i) (vs i) ys
theorem laws_markSubS.Row_drew {W W' : World} {base : Nat} {f : Nat → Nat} {vs : Nat → Value} {l : List S43} {g : Nat} (h : laws_markSubS.Row W base f vs l g) (hW : W'.heap = W.heap) : laws_markSubS.Row W' base f vs l g := by
 obtain ⟨h0, cur, hc, hi⟩ := h
 refine ⟨h0, cur, by rw [hW]; exact hc, fun i hl => ?_⟩
 obtain ⟨h1, h2, ys, h3, h4⟩ := hi i hl
 exact ⟨h1, h2, ys, h3, Kd.R_step h4 (fun k _ _ => by rw [hW])⟩
theorem laws_markSubS.Row_bool {W : World} {base : Nat} {f : Nat → Nat} {vs : Nat → Value} {l : List S43} {g i j : Nat} {b : Bool} (h : laws_markSubS.Row W base f vs l g) (hl : i < l.length) (hj : j < 2) : laws_markSubS.Row (W.setCell ⟨g, i * 3 + j, none⟩ (.bool b)) base f vs l g := by
 obtain ⟨h0, cur, hc, hi⟩ := h
 refine ⟨h0, cur.setIfInBounds (i * 3 + j) (.bool b), blk_put hc _ _ rfl, fun i' hl' => ?_⟩
 obtain ⟨⟨b1, b2, h1, h1'⟩, h2, ys, h3, h4⟩ := hi i' hl'
 have hs : ∀ n u, cur[n]? = some u → (cur.setIfInBounds (i * 3 + j) (.bool b))[n]? = if i * 3 + j = n then some (.bool b) else some u := by
  intro n u hn
  have hn' : n < cur.size := (Array.getElem?_eq_some_iff.mp hn).1
  rw [Array.getElem?_setIfInBounds]
  by_cases c : i * 3 + j = n
  ·subst c
   simp [hn']
  ·rw [if_neg c, if_neg c, hn]
 refine ⟨?_, ?_, ys, h3, ?_⟩
 ·rw [hs _ _ h1, hs _ _ h1']
  refine ⟨if i * 3 + j = i' * 3 then b else b1, if i * 3 + j = i' * 3 + 1 then b else b2, ?_, ?_⟩ <;> split <;> rfl
 ·rw [hs _ _ h2, if_neg (by omega)]
 ·refine Kd.R_mono (Kd.R_far (Kd.R_bound h4) (p := ⟨g, i * 3 + j, none⟩) ?_ _) (fun _ hk => hk.1)
  rintro k ⟨_, _, _, q, hq, cells, hk⟩ rfl
  rw [hc] at hk
  cases hk
  rcases List.mem_cons.mp hq with h | h
  ·cases h
  ·exact absurd h (by simp [k45, Kd.iso, Kd.pair, Kd.int, Kd.scalar])
theorem laws_markSubS.Row_feat {W W' : World} {base : Nat} {f : Nat → Nat} {vs : Nat → Value} {l : List S43} {g i : Nat} {ok : Nat → Prop} {ys' : List S45} (h : laws_markSubS.Row W base f vs l g) (hl : i < l.length) (hk : Kept W W' (fun k => (vs i).ownBlock = some k)) (hy : ys'.length = (l.getD i z43).f2.length) (hr : Kd.R k45 45 W' base ok (vs i) ys') : laws_markSubS.Row W' base f vs l g := by
 obtain ⟨h0, cur, hc, hi⟩ := h; obtain ⟨_, _, ys0, _, hi4⟩ := hi i hl
 refine ⟨h0, cur, blk_kept hc hk (fun e => ?_), fun i' hl' => ?_⟩
 ·obtain ⟨cells, e'⟩ := laws_markSubS.own45 hi4 e
  rw [hc] at e'
  cases e'
 obtain ⟨h1, h2, ys, h3, h4⟩ := hi i' hl'
 refine ⟨h1, h2, ?_⟩
 by_cases c : i' = i
 ·subst c
  exact ⟨ys', hy, laws_markSubS.R45 hr (fun k e => h4.1 k e)⟩
 ·exact ⟨ys, h3, Kd.R_kept h4 hk (fun k (hk : f k = i') e => c (hk.symm.trans (hi4.1 k e)))⟩
theorem laws_markSubS.Row_start {w : World} {base : Nat} {ok : Nat → Prop} {v : Value} {l : List S43} (h : Kd.S k43 43 w base ok v l) (hp : 0 < l.length) : ∃ g c f vs, v = .slice (some ⟨g, 0, none⟩) l.length c ∧ laws_markSubS.Row w base f vs l g ∧ laws_markSubS.Of w g ∧ ∀ i, i < l.length → ∀ k, (vs i).ownBlock = some k → laws_markSubS.Of w k := by
 obtain ⟨g, c, e, hb, _, cur, hc⟩ := Kd.R_form (Kd.S_R h) hp; subst e; obtain ⟨f, hR⟩ := h
 have hE : ∀ i, ∃ v, i < l.length → (∃ b1 b2, cur[i * 3]? = some (.bool b1) ∧ cur[i * 3 + 1]? = some (.bool b2)) ∧ cur[i * 3 + 2]? = some v ∧ ∃ ys, ys.length = (l.getD i z43).f2.length ∧ Kd.R k45 45 w base (fun k => f k = i) v ys := by
  intro i
  by_cases hl : i < l.length
  ·obtain ⟨ce, hcl, hM, hcc, _⟩ := Kd.R_elem hR (z43, i) (i : Int) (by omega) (by omega)
   have hz : (l.zipIdx).getD (i : Int).toNat (z43, i) = (l.getD i z43, i) := by
    rw [Int.toNat_natCast, List.getD_eq_getElem?_getD, List.getElem?_zipIdx, List.getD_eq_getElem?_getD, List.getElem?_eq_getElem hl]
    simp
   rw [hz] at hM
   have hM' : k43.M w base (fun k => (ok k ∧ k ≠ g) ∧ f k = i) (l.getD i z43) ce := hM
   obtain ⟨v2, rfl, hr⟩ := k43_openM hM'
   refine ⟨v2, fun _ => ?_⟩
   have hcc' : ∀ j u, [Value.bool (l.getD i z43).f0, .bool (l.getD i z43).f1, v2][j]? = some u → cur[i * 3 + j]? = some u := by
    intro j u hu
    have := hcc j u hu
    rw [blk_cell hc] at this
    exact this
   exact ⟨⟨_, _, hcc' 0 _ rfl, hcc' 1 _ rfl⟩, hcc' 2 _ rfl, _, rfl, Kd.R_mono hr (fun k hk => hk.2)⟩
  ·exact ⟨.nilIface, fun h => absurd h hl⟩
 obtain ⟨vs, hvs⟩ := Classical.axiomOfChoice hE
 refine ⟨g, c, f, vs, rfl, ⟨hb, cur, hc, hvs⟩, ⟨cur, 43, hc, .inl rfl⟩, fun i hl k hk => ?_⟩
 obtain ⟨_, _, ys, _, hr⟩ := hvs i hl; obtain ⟨cells, e⟩ := laws_markSubS.own45 hr hk
 exact ⟨cells, 45, e, .inr rfl⟩
set_option maxHeartbeats 8000000 in
set_option maxRecDepth 100000 in
theorem laws_markSubS.calls (v0 : Value) (l0 : List S43) (a1 r : Int) (w0 w : World) {ok : Nat → Prop} (hB : Below w0.heap.size w0 w) (ho : Kd.S k43 43 w w0.heap.size ok v0 l0) (h : laws_markSubS.f l0 a1 = some r) :
  Calls Try.prog 15 #[v0, .int .i64 a1] w fun e w' => e = .returned (.int .i64 r) ∧ Below w0.heap.size w0 w' ∧ Kept w w' (laws_markSubS.Of w) := by
 have hu45 := Try.underlying45; have hu43 := Try.underlying43
 unfold laws_markSubS.f at h
 by_cases hd : 0 ≤ a1 ∧ a1 + laws_markSubS.sum l0 ≤ 1000000000000
 rotate_left
 ·rw [if_neg hd] at h
  cases h
 rw [if_pos hd] at h
 injection h with h
 obtain ⟨Ao, co, rfl⟩ := Kd.R_slice (Kd.S_R ho)
 have hstart : ∃ g f vs, 0 < l0.length → Ao = some ⟨g, 0, none⟩ ∧ laws_markSubS.Row w w0.heap.size f vs l0 g ∧ laws_markSubS.Of w g ∧ ∀ i, i < l0.length → ∀ k, (vs i).ownBlock = some k → laws_markSubS.Of w k := by
  by_cases hp : 0 < l0.length
  ·obtain ⟨g, c, f, vs, e, h1, h2, h3⟩ := laws_markSubS.Row_start ho hp
   injection e with e _ _
   exact ⟨g, f, vs, fun _ => ⟨e, h1, h2, h3⟩⟩
  ·exact ⟨0, fun _ => 0, fun _ => .nilIface, fun h => absurd h hp⟩
 obtain ⟨g, f, vs, hst⟩ := hstart; have hlen := (Kd.R_reads' (Kd.S_R ho)).1
 have hl9 : (l0.length : Int) ≤ 9223372036854775807 := by
  have := (Kd.R_reads' (Kd.S_R ho)).2.2.2.1
  omega
 have HL9 := Aside0.mk hl9; clear hl9 hlen; have HD := Aside0.mk hd; have HR := Aside0.mk h; have HST := Aside0.mk hst
 have HRow := Aside0.mk (show 0 < l0.length → laws_markSubS.Row w w0.heap.size f vs l0 g from fun hp => (hst hp).2.1)
 have HK := Aside0.mk (Kept.refl w (laws_markSubS.Of w)); have HB := Aside0.mk hB; clear hB hst ho hd h
 go_enter Try.func15, Try.ntmps15
 go_wp2
 go_loopg [1, 5] l0.length (fun kq v1 v5 w' => ∃ (x1_1 : Int) (x5_1 : Int), v1 = .int .i64 x1_1 ∧ v5 = .int .i64 x5_1 ∧ Aside0 (0 ≤ x5_1 ∧ x5_1 + kq = l0.length) ∧ Aside0 (a1 ≤ x1_1 ∧ x1_1 + laws_markSubS.sum (l0.drop x5_1.toNat) = r) ∧ Aside0 (0 < l0.length → laws_markSubS.Row w' w0.heap.size f vs l0 g) ∧ Aside0 (Kept w w' (laws_markSubS.Of w)) ∧ Aside0 (Below w0.heap.size w0 w'))
 case atStart => exact ⟨a1, 0, rfl, rfl, ⟨by omega, by omega⟩, ⟨by omega, by simpa using HR.out⟩, ⟨fun hp => laws_markSubS.Row_drew (HRow.out hp) rfl⟩, ⟨by repeat (first | (with_reducible first | exact HK.out | apply Kept.alloc | apply Kept.drewN | apply Kept.drew) | exact HK.out)⟩, ⟨belowNow⟩⟩
 case round =>
  clear HRow; obtain ⟨x1_1, x5_1, rfl, rfl, HX, HS, HRow, HK, HB⟩ := hrel
  by_cases c3 : x5_1 < (l0.length : Int)
  case neg =>
   have c3b0 : decide (x5_1 < (l0.length : Int)) = false := decide_eq_false c3; have hx := HX.out; have hs := HS.out
   rw [List.drop_eq_nil_of_le (by omega)] at hs
   have e : x1_1 = r := by simpa [laws_markSubS.sum] using hs.2
   subst e; clear c3
   go_wp2
   go_ret
   exact ⟨rfl, belowNow, by repeat (first | (with_reducible first | exact HK.out | apply Kept.alloc | apply Kept.drewN | apply Kept.drew) | exact HK.out)⟩

  have c3b0 : decide (x5_1 < (l0.length : Int)) = true := decide_eq_true c3; have hx := HX.out; have hs := HS.out; have hd := HD.out; have hr9 := HR.out; have p5 : 0 ≤ x5_1 := hx.1
  obtain ⟨k1, rfl⟩ : ∃ k1, gk = k1 + 1 := ⟨gk - 1, by omega⟩
  have hp : 0 < l0.length := by omega
  have hi : x5_1.toNat < l0.length := by omega
  obtain ⟨eA, _, hOg, hOv⟩ := HST.out hp; subst eA; have hrow := HRow.out hp; have HG := Aside0.mk hrow.1; rw [laws_markSubS.drop_sum l0 _ hi] at hs; have hsn := laws_markSubS.sum_nn (l0.drop (x5_1.toNat + 1)); obtain ⟨m, hm⟩ : ∃ m, m = (l0.getD x5_1.toNat z43).f2.length := ⟨_, rfl⟩; rw [← hm] at hs
  have w1 : wrap64 (x1_1 + 1) = x1_1 + 1 := laws_markSubS.w64 _ (by omega) (by omega)
  have w2 : wrap64 (x1_1 + 1 + 1) = x1_1 + 2 := by rw [laws_markSubS.w64 _ (by omega) (by omega)]; omega
  have w5 : wrap64 (x5_1 + 1) = x5_1 + 1 := laws_markSubS.w64 _ (by have := HL9.out; omega) (by have := HL9.out; omega)
  obtain ⟨cur, hc, hcs⟩ := hrow.2; obtain ⟨⟨b1, b2, hb1, hb2⟩, _, _⟩ := hcs x5_1.toNat hi; obtain ⟨W1, hW1⟩ : ∃ W, W = wr.setCell ⟨g, x5_1.toNat * 3, none⟩ (.bool (Int.tmod x1_1 3 == 0)) := ⟨_, rfl⟩; obtain ⟨W2, hW2⟩ : ∃ W, W = W1.setCell ⟨g, x5_1.toNat * 3 + 1, none⟩ (.bool (Int.tmod (x1_1 + 1) 3 == 0)) := ⟨_, rfl⟩
  have hr1 : laws_markSubS.Row W1 w0.heap.size f vs l0 g := hW1 ▸ laws_markSubS.Row_bool (j := 0) hrow hi (by omega)
  have hr2 : laws_markSubS.Row W2 w0.heap.size f vs l0 g := hW2 ▸ laws_markSubS.Row_bool (j := 1) hr1 hi (by omega)
  have hk2 : Kept w W2 (laws_markSubS.Of w) := by
   rw [hW2, hW1]
   exact Kept.setCell (Kept.setCell HK.out (.inl hOg) _) (.inl hOg) _
  have hB2 : Below w0.heap.size w0 W2 := by
   rw [hW2, hW1]
   exact below_set (below_set HB.out hrow.1) hrow.1
  obtain ⟨cur1, hc1, hcs1⟩ := hr1.2; obtain ⟨⟨_, b3, _, hb3⟩, _, _⟩ := hcs1 x5_1.toNat hi; obtain ⟨cur2, hc2, hcs2⟩ := hr2.2; obtain ⟨_, hb4, ys, hys, hRy⟩ := hcs2 x5_1.toNat hi; obtain ⟨A2, c2, hv⟩ := Kd.R_slice hRy
  obtain ⟨ys', hys', hfe⟩ := laws_markSubS.fe ys.length ys (x1_1 + 2) 0 (by omega) (by omega) (by omega) (by omega) (by omega) (by omega)
  have hx0 : wr.cell? ⟨g, x5_1.toNat * 3, none⟩ = some (.bool b1) := (blk_cell hc _).trans hb1; have hf0 : wr.frozen? ⟨g, x5_1.toNat * 3, none⟩ = false := blk_frozen hc _; have hx1 : (wr.setCell ⟨g, x5_1.toNat * 3, none⟩ (.bool (Int.tmod x1_1 3 == 0))).cell? ⟨g, x5_1.toNat * 3 + 1, none⟩ = some (.bool b3) := hW1 ▸ (blk_cell hc1 _).trans hb3; have hf1 : (wr.setCell ⟨g, x5_1.toNat * 3, none⟩ (.bool (Int.tmod x1_1 3 == 0))).frozen? ⟨g, x5_1.toNat * 3 + 1, none⟩ = false := hW1 ▸ blk_frozen hc1 _
  have hx2 : ((wr.setCell ⟨g, x5_1.toNat * 3, none⟩ (.bool (Int.tmod x1_1 3 == 0))).setCell ⟨g, x5_1.toNat * 3 + 1, none⟩ (.bool (Int.tmod (x1_1 + 1) 3 == 0))).cell? ⟨g, x5_1.toNat * 3 + 2, none⟩ = some (.slice A2 ys.length c2) := by
   rw [← hW1, ← hW2, ← hv]
   exact (blk_cell hc2 _).trans hb4
  have q5 : x5_1 < (l0.length : Int) := c3
  have HC := Aside0.mk (laws_markFeatureS.calls (ys.length + 1) (fun k => (vs x5_1.toNat).ownBlock = some k) (vs x5_1.toNat) ys (x1_1 + 2) _ _ w0 W2 hB2 (laws_markSubS.R45 hRy (fun _ h => h)) hfe)
  have HW2 := Aside0.mk (hW1 ▸ hW2 : W2 = (wr.setCell ⟨g, x5_1.toNat * 3, none⟩ (.bool (Int.tmod x1_1 3 == 0))).setCell ⟨g, x5_1.toNat * 3 + 1, none⟩ (.bool (Int.tmod (x1_1 + 1) 3 == 0))); have HV := Aside0.mk hv; have HYS := Aside0.mk (hys'.trans hys); have HY0 := Aside0.mk (hys.trans hm.symm); have HRow2 := Aside0.mk hr2; have HK2 := Aside0.mk hk2; have HOv := Aside0.mk hOv; have HS2 := Aside0.mk hs; have HSN := Aside0.mk hsn; have HI := Aside0.mk hi
  clear hcs hb1 hb2 hc hOg hOv hs hsn hm hi hp hrow hd hr9 c3 hr1 hr2 hk2 hB2 hW1 hW2 hc1 hcs1 hb3 hc2 hcs2 hb4 hys hRy hv hys' hfe
  replace p5 := eq_true p5; replace q5 := eq_true q5
  go_wp2_with (first
   | (go_at_call 45; rw [← HV.out, ← HW2.out]; (refine HC.out.mono ?_); rintro e w9 ⟨rfl, hr3, hb3, hk3⟩; (try refine ⟨_, rfl, ?_⟩); have n0_ := Aside0.mk (fun (_ : 0 < l0.length) => laws_markSubS.Row_feat HRow2.out HI.out hk3 HYS.out hr3); have n1_ := Aside0.mk (Kept.then_ HK2.out hk3 (fun k hk => .inl (HOv.out _ HI.out k hk))); have n2_ := Aside0.mk hb3; clear HRow HK HB; have HRow := n0_; have HK := n1_; have HB := n2_; clear n0_ n1_ n2_))
  go_roundg k1
  case measure => have := HX.out; omega
  case rel => exact ⟨_, x5_1 + 1, (by first | rfl | (simp; done) | (simp [*]; done)), (by first | rfl | (simp; done) | (simp [*]; done)), ⟨by have := HX.out; omega, by have := HX.out; omega⟩, ⟨by have := HS2.out; have := HSN.out; have := HY0.out; omega, by have := HS2.out; have := HY0.out; have e : (x5_1 + 1).toNat = x5_1.toNat + 1 := (by have := HX.out; omega); rw [e]; omega⟩, ⟨fun hp => laws_markSubS.Row_drew (HRow.out hp) rfl⟩, ⟨by repeat (first | (with_reducible first | exact HK.out | apply Kept.alloc | apply Kept.drewN | apply Kept.drew) | exact HK.out)⟩, ⟨belowNow⟩⟩
/-! ### laws_markIntS: function 27 -/
def laws_markIntS.l0 : Nat → List Int → Int → Int → Option (Int × List Int)
 | 0, _, _, _ => none
 | k + 1, x0, x1, x5 => if x5 < (x0.length : Int) then (if 0 ≤ x5 then (laws_markIntS.l0 k (x0.set (x5 : Int).toNat x1) (wrap64 (x1 + 1)) (wrap64 (x5 + 1))) else (none)) else (some (x1, x0))
def laws_markIntS.f (k : Nat) (l0 : List Int) (a1 : Int) : Option (Int × List Int) := laws_markIntS.l0 k l0 a1 0
theorem laws_markIntS.mono_l : ∀ k, (∀ y0 y1 y2, LeO (laws_markIntS.l0 k y0 y1 y2) (laws_markIntS.l0 (k + 1) y0 y1 y2))
 | 0 => fun _ _ _ r h => by simp [laws_markIntS.l0] at h
 | k + 1 => by
  have ih0 := laws_markIntS.mono_l k
  ·intro y0 y1 y2
   unfold laws_markIntS.l0
   repeat' first
   | (with_reducible exact ih0 _ _ _)
   | (with_reducible exact LeO.refl _)
   | (with_reducible exact LeO.none _)
   | (with_reducible refine LeO.ite ?_ ?_)
   | (with_reducible refine LeO.bind ?_ (fun _ => ?_))
   | exact ih0 _ _ _
   | exact LeO.none _
   | refine LeO.ite ?_ ?_
   | refine LeO.bind ?_ (fun _ => ?_)
theorem laws_markIntS.mono : ∀ a0 a1 k, LeO (laws_markIntS.f k a0 a1) (laws_markIntS.f (k + 1) a0 a1) := by
 intro a0 a1 k
 have ih0 := laws_markIntS.mono_l k
 unfold laws_markIntS.f
 repeat' first
   | (with_reducible exact ih0 _ _ _)
   | (with_reducible exact LeO.refl _)
   | (with_reducible exact LeO.none _)
   | (with_reducible refine LeO.ite ?_ ?_)
   | (with_reducible refine LeO.bind ?_ (fun _ => ?_))
   | exact ih0 _ _ _
   | exact LeO.none _
   | refine LeO.ite ?_ ?_
   | refine LeO.bind ?_ (fun _ => ?_)
set_option maxHeartbeats 8000000 in
set_option maxRecDepth 100000 in
theorem laws_markIntS.calls (k : Nat) (P0_ : Nat → Prop) (u9000_ : Value) (l0 : List Int) (a1 : Int) (r1 : Int) (r2 : List Int) (w0 w : World) (hB : Below w0.heap.size w0 w) (ho0 : Kd.R (Kd.int .i64) 3 w w0.heap.size P0_ u9000_ l0) (h : laws_markIntS.f k l0 a1 = some (r1, r2)) :
  Calls Try.prog 27 #[u9000_, .int .i64 a1] w fun e w' => e = .returned (.int .i64 r1) ∧ Kd.R (Kd.int .i64) 3 w' w0.heap.size (fun k_ => (P0_ k_ ∨ w.heap.size ≤ k_)) u9000_ r2 ∧ Below w0.heap.size w0 w' ∧ Kept w w' (fun k_ => P0_ k_) := by
 have HO0 := Aside0.mk (show Kd.R (Kd.int .i64) 3 w w0.heap.size (fun k_ => (P0_ k_ ∨ w.heap.size ≤ k_)) u9000_ l0 from Kd.R_mono ho0 (fun k_ hk => (.inl hk)))
 have HK := Aside0.mk (Kept.refl w (fun k_ => P0_ k_))
 have HW0 := Aside0.mk hB.size; have HB := Aside0.mk hB; clear hB; have H : (laws_markIntS.l0 k l0 a1 0) = some (r1, r2) := h; clear h
 have H' := Aside0.mk H
 clear H
 go_enter Try.func27, Try.ntmps27
 go_wp2
 go_loopg [1, 5] k (fun kq v1 v5 w' => ∃ (x0_1 : List Int) (x1_1 : Int) (x5_1 : Int), v1 = .int .i64 x1_1 ∧ v5 = .int .i64 x5_1 ∧ Aside0 (laws_markIntS.l0 kq x0_1 x1_1 x5_1 = some (r1, r2)) ∧ Aside0 (kq ≤ k) ∧ Aside0 (Kd.R (Kd.int .i64) 3 w' w0.heap.size (fun k_ => (P0_ k_ ∨ w.heap.size ≤ k_)) u9000_ x0_1) ∧ Aside0 (Kept w w' (fun k_ => P0_ k_)) ∧ Aside0 (Below w0.heap.size w0 w'))
 case atStart => exact ⟨(l0), (a1), (0), (by first | rfl | (simp; done) | (simp [*]; done)), (by first | rfl | (simp; done) | (simp [*]; done)), H', ⟨Nat.le_refl _⟩, ⟨by (with_reducible repeat (first | apply Kd.R_alloc | apply Kd.R_drewN | apply Kd.R_drew)); exact HO0.out⟩, ⟨by repeat (first | (with_reducible first | exact HK.out | apply Kept.alloc | apply Kept.drewN | apply Kept.drew) | exact HK.out)⟩, ⟨belowNow⟩⟩
 case round =>
  clear H'
  (try clear c2); (try clear p2); obtain ⟨x0_1, x1_1, x5_1, rfl, rfl, HA, HK1, HO_0, HK, HB⟩ := hrel
  cases gk with
  | zero => exact absurd HA.out (by simp [laws_markIntS.l0])
  | succ k1 =>
   have H := HA.out; clear HA; simp only [laws_markIntS.l0] at H
   by_cases c3 : x5_1 < (x0_1.length : Int)
   case neg =>
    rw [if_neg c3] at H; have c3b0 : decide (x5_1 < (x0_1.length : Int)) = false := decide_eq_false c3; clear c3; simp only [Option.some.injEq, Prod.mk.injEq] at H; obtain ⟨rfl, rfl⟩ := H; obtain ⟨Ao9, co9, eo9⟩ := Kd.R_slice HO_0.out; subst eo9
    go_wp2
    go_ret
    exact ⟨by first | rfl | (simp [errW_none, errW_some] <;> rfl) | (simp [*, errW_none, errW_some] <;> rfl), by (with_reducible repeat (first | apply Kd.R_alloc | apply Kd.R_drewN | apply Kd.R_drew)); exact HO_0.out, belowNow, by repeat (first | (with_reducible first | exact HK.out | apply Kept.alloc | apply Kept.drewN | apply Kept.drew) | exact HK.out)⟩

   rw [if_pos c3] at H; have c3b0 : decide (x5_1 < (x0_1.length : Int)) = true := decide_eq_true c3; clear c3
   by_cases c4 : 0 ≤ x5_1
   case neg =>
    rw [if_neg c4] at H
    exact absurd H (by simp)
   rw [if_pos c4] at H; have c4b0 : decide (0 ≤ x5_1) = true := decide_eq_true c4; clear c4; obtain ⟨y298, hy298⟩ : ∃ y_ : List Int, y_ = (x0_1.set (x5_1 : Int).toNat x1_1) := ⟨_, rfl⟩
   replace H : (laws_markIntS.l0 k1 y298 (wrap64 (x1_1 + 1)) (wrap64 (x5_1 + 1))) = some (r1, r2) := by first | (rw [hy298]; with_reducible exact H) | (have H2_ := (Option.bind_some _ _).symm.trans H; rw [hy298]; with_reducible exact H2_) | (have H2_ := (Option.bind_some _ _).symm.trans H; with_reducible exact H2_) | with_reducible exact H | (rw [hy298]; exact H) | exact H
   have Ny298 := Aside0.mk hy298; clear hy298
   have H' := Aside0.mk H
   clear H; obtain ⟨Ao6, co6, eo6⟩ := Kd.R_slice HO_0.out; subst eo6
   have p5 : 0 ≤ (x5_1 : Int) := of_decide_eq_true (by first | (with_reducible assumption) | assumption)
   have q5 : (x5_1 : Int) < ((x0_1.length : Int) : Int) := of_decide_eq_true (by first | (with_reducible assumption) | assumption)
   obtain ⟨go5, co5, eo5, gb5, gl5, cl5, HG5⟩ := Kd.R_form HO_0.out (by omega)
   (first | cases eo5 | (injection eo5 with ea_ en_ ec_; (first | subst ea_ | (injection ea_ with ea_; subst ea_)); subst ec_; clear en_))
   have GB5 := Aside0.mk gb5; have GG5 := Aside0.mk HG5; clear gb5 gl5 HG5; have HMgo5 := Aside0.mk (show (P0_ go5 ∨ w.heap.size ≤ go5) from (HO_0.out.1 _ rfl)); obtain ⟨hx5_0, hf5_0⟩ := Kd.R_celln 0 HO_0.out (x5_1 : Int) p5 q5; replace p5 := eq_true p5; replace q5 := eq_true q5; have HP7 := Kd.R_putg HO_0.out (x5_1 : Int) x1_1
   go_wp2_with (first | ((with_reducible refine gate_store (t := 3) (p := 15) rfl ?_); refine store_event (t := 3) (p := 15) (v := ?vo_w8) (w1 := (wr.setCell ⟨go5, (x5_1 : Int).toNat, none⟩ (.int .i64 x1_1))) ?hg ?ho ?hn ?hr ?_; (case ho => rfl); (case hg => rfl); (case hn => rfl); (case hr => first | (go_simp; done) | (go_simp; rfl)); intro w8 hw; have hg : wr.grownBy w8 (some go5) := (by rw [hw]; exact HP7.2); have hp_ : Kd.R (Kd.int .i64) 3 w8 w0.heap.size (fun k_ => (P0_ k_ ∨ w.heap.size ≤ k_)) (.slice (some ⟨go5, 0, none⟩) x0_1.length co6) y298 := (by rw [hw, Ny298.out]; exact HP7.1); clear HP7; have n0_ := Aside0.mk (hp_); have n1_ := Aside0.mk ((by rw [hw]; exact below_set (HB.out) GB5.out : Below w0.heap.size w0 w8)); have n2_ := Aside0.mk (Kept.of_grown (S := (fun k_ => P0_ k_)) hg (by repeat (first | (with_reducible first | exact HK.out | apply Kept.alloc | apply Kept.drewN | apply Kept.drew) | exact HK.out)) (fun k_ e_ => (HO_0.out.1 k_ e_))); clear HO_0; clear HB; clear HK; have HO_0 := n0_; have HB := n1_; have HK := n2_; clear n0_ n1_ n2_; clear hg hw hp_))
   go_roundg k1
   case measure => have := HK1.out; omega
   case rel => exact ⟨(y298), (wrap64 (x1_1 + 1)), (wrap64 (x5_1 + 1)), (by first | rfl | (simp; done) | (simp [*]; done)), (by first | rfl | (simp; done) | (simp [*]; done)), H', ⟨by have := HK1.out; omega⟩, ⟨by (with_reducible repeat (first | apply Kd.R_alloc | apply Kd.R_drewN | apply Kd.R_drew)); exact HO_0.out⟩, ⟨by repeat (first | (with_reducible first | exact HK.out | apply Kept.alloc | apply Kept.drewN | apply Kept.drew) | exact HK.out)⟩, ⟨belowNow⟩⟩
end Go.Proofs.Ytkcmdfeiaafdjaa.PFnExactRoute7
