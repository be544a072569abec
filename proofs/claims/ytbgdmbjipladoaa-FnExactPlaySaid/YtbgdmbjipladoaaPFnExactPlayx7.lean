-- laid by a program of this session (wip/lay/lay.py); Lean checks it
import Derived.Test.YtbgdmbjipladoaaVFnExactPlayShort
import Derived.Test.YtbgdmbjipladoaaPFnExactPlayx0
namespace Go.Proofs.Ytbgdmbjipladoaa.PFnExactPlay
-- squashed
open Go.RowKit Go.Proofs.YtbgdmbjipladoaaW.PrintWords Go.Proofs.YtbgdmbjipladoaaW.PrintLast Go.Proofs.YtbgdmbjipladoaaW.PrintMore Go.Proofs.Ytbgdmbjipladoaa.Short
attribute [local go_sem] max2_int min2_int max_two min_two max_three min_three max_four min_four   -- for this text's walks alone
set_option linter.unusedVariables false
set_option linter.unusedSimpArgs false

theorem cz7_ {w : World} {g : Nat} {t : TypeId} {cs : Array Value} {v : Value} (h : w.heap[g]? = some (.cells cs t (0, 0))) (i : Nat) (e : cs[i]? = some v) : w.cell? ⟨g, i, none⟩ = some v := (blk_cell h i).trans e
/-! ### impl_in: function 44 -/
def impl_in.f (a0 : Int) (a1 : Int) (a2 : Int) : Option (Bool) := if a0 ≥ a1 then (some (decide (a0 ≤ a2))) else (some false)
set_option maxHeartbeats 8000000 in
set_option maxRecDepth 100000 in
theorem impl_in.calls (a0 : Int) (a1 : Int) (a2 : Int) (r : Bool) (w : World) (h : impl_in.f a0 a1 a2 = some r) :
  Calls Try.prog 44 #[.int .i64 a0, .int .i64 a1, .int .i64 a2] w fun e w' => e = .returned (.bool r) ∧ Drawn0 w w' := by
 have H : (if a0 ≥ a1 then (some (decide (a0 ≤ a2))) else (some false)) = some r := h; clear h
 by_cases c4 : a0 ≥ a1
 case pos =>
  rw [if_pos c4] at H; have c4b0 : decide (a1 ≤ a0) = true := decide_eq_true c4; clear c4; obtain rfl := Option.some.inj H
  go_enter Try.func44, Try.ntmps44
  go_wp2
  go_ret
  exact ⟨by first | rfl | (simp; done) | (simp [*]; done), by repeat (first | exact Drawn0.refl _ | apply Drawn0.step)⟩
 rw [if_neg c4] at H; have c4b0 : decide (a1 ≤ a0) = false := decide_eq_false c4; clear c4; obtain rfl := Option.some.inj H
 go_enter Try.func44, Try.ntmps44
 go_wp2
 go_ret
 exact ⟨by first | rfl | (simp; done) | (simp [*]; done), by repeat (first | exact Drawn0.refl _ | apply Drawn0.step)⟩

/-! ### impl_packetOk: function 45 -/
def impl_packetOk.f (a0_0 : Int) (a0_1 : Int) (a0_2 : Int) (a0_3 : Int) (a0_4 : Int) (a0_5 : Int) (a0_6 : Int) (a0_7 : Int) (a0_8 : Int) (a0_9 : Int) (a0_10 : Int) (a0_11 : Int) (a0_12 : Int) (a0_13 : Int) (a0_14 : Int) (a0_15 : Int) (a0_16 : Int) (a0_17 : Int) : Option (Bool) := (impl_in.f a0_0 0 1000000000).bind fun t199 => (if t199 = true then ((impl_in.f a0_1 0 1000000).bind fun t200 => (some t200)) else (some false))
set_option maxHeartbeats 8000000 in
set_option maxRecDepth 100000 in
theorem impl_packetOk.calls (a0_0 : Int) (a0_1 : Int) (a0_2 : Int) (a0_3 : Int) (a0_4 : Int) (a0_5 : Int) (a0_6 : Int) (a0_7 : Int) (a0_8 : Int) (a0_9 : Int) (a0_10 : Int) (a0_11 : Int) (a0_12 : Int) (a0_13 : Int) (a0_14 : Int) (a0_15 : Int) (a0_16 : Int) (a0_17 : Int) (r : Bool) (w : World) (h : impl_packetOk.f a0_0 a0_1 a0_2 a0_3 a0_4 a0_5 a0_6 a0_7 a0_8 a0_9 a0_10 a0_11 a0_12 a0_13 a0_14 a0_15 a0_16 a0_17 = some r) :
  Calls Try.prog 45 #[.agg #[.int .i64 a0_0, .int .i64 a0_1, .int .u8 a0_2, .int .u8 a0_3, .int .u8 a0_4, .int .u8 a0_5, .int .u8 a0_6, .int .u8 a0_7, .int .u8 a0_8, .int .u8 a0_9, .int .u8 a0_10, .int .u8 a0_11, .int .u8 a0_12, .int .u8 a0_13, .int .u8 a0_14, .int .u8 a0_15, .int .u8 a0_16, .int .u8 a0_17]] w fun e w' => e = .returned (.bool r) ∧ Below w.heap.size w w' := by
 have hu44 := Try.underlying44; have HB := am_ (Below.refl w.heap.size w)
 have H : ((impl_in.f a0_0 0 1000000000).bind fun t199 => (if t199 = true then ((impl_in.f a0_1 0 1000000).bind fun t200 => (some t200)) else (some false))) = some r := h
 clear h; replace H := Option.bind_eq_some_iff.mp H; obtain ⟨t199, A20, H⟩ := H
 replace H : (if t199 = true then ((impl_in.f a0_1 0 1000000).bind fun t200 => (some t200)) else (some false)) = some r := H
 have A2 := am_ A20; clear A20
 by_cases c3 : t199 = true
 case neg =>
  replace c3 := Bool.eq_false_iff.mpr c3; subst c3
  have H1 : (some false) = some r := by rw [if_neg (show ¬ (false = true) by decide)] at H; exact H
  clear H; have H := H1; clear H1; obtain rfl := Option.some.inj H
  go_enter Try.func45, Try.ntmps45
  go_wp2_with (first | ((with_reducible refine gate_dst (N := 1) rfl ?_); refine box_event ?hg (N := 1) ?hd (cs := #[.int .i64 a0_0, .int .i64 a0_1, .int .u8 a0_2, .int .u8 a0_3, .int .u8 a0_4, .int .u8 a0_5, .int .u8 a0_6, .int .u8 a0_7, .int .u8 a0_8, .int .u8 a0_9, .int .u8 a0_10, .int .u8 a0_11, .int .u8 a0_12, .int .u8 a0_13, .int .u8 a0_14, .int .u8 a0_15, .int .u8 a0_16, .int .u8 a0_17]) (t := 44) ?hr ?_; (case hd => rfl); (case hg => rfl); (case hr => first | (go_simp; done) | (go_simp; rfl)); intro gb198 hg w7 hbox hb; have n0_ := am_ (below_step belowNow hb); have n1_ := am_ (hbox); have n2_ := am_ ((by rw [hg]; exact (below_size belowNow) : w.heap.size ≤ gb198)); have n3_ := n2_; clear HB; have HB := n0_; have BK198 := n1_; have GW198 := n2_; have GE198 := n3_; clear n0_ n1_ n2_ n3_; clear hb hbox hg; have hcz8_0 := cz7_ BK198.out 0 rfl; have hcz8_1 := cz7_ BK198.out 1 rfl; have hcz8_2 := cz7_ BK198.out 2 rfl; have hcz8_3 := cz7_ BK198.out 3 rfl; have hcz8_4 := cz7_ BK198.out 4 rfl; have hcz8_5 := cz7_ BK198.out 5 rfl; have hcz8_6 := cz7_ BK198.out 6 rfl; have hcz8_7 := cz7_ BK198.out 7 rfl; have hcz8_8 := cz7_ BK198.out 8 rfl; have hcz8_9 := cz7_ BK198.out 9 rfl; have hcz8_10 := cz7_ BK198.out 10 rfl; have hcz8_11 := cz7_ BK198.out 11 rfl; have hcz8_12 := cz7_ BK198.out 12 rfl; have hcz8_13 := cz7_ BK198.out 13 rfl; have hcz8_14 := cz7_ BK198.out 14 rfl; have hcz8_15 := cz7_ BK198.out 15 rfl; have hcz8_16 := cz7_ BK198.out 16 rfl; have hcz8_17 := cz7_ BK198.out 17 rfl; have hfz8_0 := blk_frozen BK198.out 0; have hfz8_1 := blk_frozen BK198.out 1; have hfz8_2 := blk_frozen BK198.out 2; have hfz8_3 := blk_frozen BK198.out 3; have hfz8_4 := blk_frozen BK198.out 4; have hfz8_5 := blk_frozen BK198.out 5; have hfz8_6 := blk_frozen BK198.out 6; have hfz8_7 := blk_frozen BK198.out 7; have hfz8_8 := blk_frozen BK198.out 8; have hfz8_9 := blk_frozen BK198.out 9; have hfz8_10 := blk_frozen BK198.out 10; have hfz8_11 := blk_frozen BK198.out 11; have hfz8_12 := blk_frozen BK198.out 12; have hfz8_13 := blk_frozen BK198.out 13; have hfz8_14 := blk_frozen BK198.out 14; have hfz8_15 := blk_frozen BK198.out 15; have hfz8_16 := blk_frozen BK198.out 16; have hfz8_17 := blk_frozen BK198.out 17) | ((with_reducible refine gate_callee (f := 44) rfl ?_); refine goesL_ (some 5) rfl rfl Try.func44 (by kernel_rfl) rfl #[.int .i64 a0_0, .int .i64 0, .int .i64 1000000000] rfl (by (try simp only [List.map_toArray, List.map_cons, List.map_nil]); first | done | rfl | (simp only [List.length_drop, List.length_take]; rfl)) ?_; (with_reducible refine (impl_in.calls a0_0 0 1000000000 false _ A2.out).mono ?_); rintro e w' ⟨rfl, ⟨nd, rfl⟩⟩; refine ⟨_, rfl, ?_⟩))
  go_ret
  exact ⟨by first | rfl | (simp [errW_none, errW_some] <;> rfl) | (simp [*, errW_none, errW_some] <;> rfl), belowNow⟩

 subst c3
 have H1 : ((impl_in.f a0_1 0 1000000).bind fun t200 => (some t200)) = some r := by rw [if_pos rfl] at H; exact H
 clear H; have H := H1; clear H1; replace H := Option.bind_eq_some_iff.mp H; obtain ⟨t200, A40, H⟩ := H
 replace H : (some t200) = some r := H
 have A4 := am_ A40; clear A40; obtain rfl := Option.some.inj H
 go_enter Try.func45, Try.ntmps45
 go_wp2_with (first | ((with_reducible refine gate_dst (N := 1) rfl ?_); refine box_event ?hg (N := 1) ?hd (cs := #[.int .i64 a0_0, .int .i64 a0_1, .int .u8 a0_2, .int .u8 a0_3, .int .u8 a0_4, .int .u8 a0_5, .int .u8 a0_6, .int .u8 a0_7, .int .u8 a0_8, .int .u8 a0_9, .int .u8 a0_10, .int .u8 a0_11, .int .u8 a0_12, .int .u8 a0_13, .int .u8 a0_14, .int .u8 a0_15, .int .u8 a0_16, .int .u8 a0_17]) (t := 44) ?hr ?_; (case hd => rfl); (case hg => rfl); (case hr => first | (go_simp; done) | (go_simp; rfl)); intro gb198 hg w5 hbox hb; have n0_ := am_ (below_step belowNow hb); have n1_ := am_ (hbox); have n2_ := am_ ((by rw [hg]; exact (below_size belowNow) : w.heap.size ≤ gb198)); have n3_ := n2_; clear HB; have HB := n0_; have BK198 := n1_; have GW198 := n2_; have GE198 := n3_; clear n0_ n1_ n2_ n3_; clear hb hbox hg; have hcz6_0 := cz7_ BK198.out 0 rfl; have hcz6_1 := cz7_ BK198.out 1 rfl; have hcz6_2 := cz7_ BK198.out 2 rfl; have hcz6_3 := cz7_ BK198.out 3 rfl; have hcz6_4 := cz7_ BK198.out 4 rfl; have hcz6_5 := cz7_ BK198.out 5 rfl; have hcz6_6 := cz7_ BK198.out 6 rfl; have hcz6_7 := cz7_ BK198.out 7 rfl; have hcz6_8 := cz7_ BK198.out 8 rfl; have hcz6_9 := cz7_ BK198.out 9 rfl; have hcz6_10 := cz7_ BK198.out 10 rfl; have hcz6_11 := cz7_ BK198.out 11 rfl; have hcz6_12 := cz7_ BK198.out 12 rfl; have hcz6_13 := cz7_ BK198.out 13 rfl; have hcz6_14 := cz7_ BK198.out 14 rfl; have hcz6_15 := cz7_ BK198.out 15 rfl; have hcz6_16 := cz7_ BK198.out 16 rfl; have hcz6_17 := cz7_ BK198.out 17 rfl; have hfz6_0 := blk_frozen BK198.out 0; have hfz6_1 := blk_frozen BK198.out 1; have hfz6_2 := blk_frozen BK198.out 2; have hfz6_3 := blk_frozen BK198.out 3; have hfz6_4 := blk_frozen BK198.out 4; have hfz6_5 := blk_frozen BK198.out 5; have hfz6_6 := blk_frozen BK198.out 6; have hfz6_7 := blk_frozen BK198.out 7; have hfz6_8 := blk_frozen BK198.out 8; have hfz6_9 := blk_frozen BK198.out 9; have hfz6_10 := blk_frozen BK198.out 10; have hfz6_11 := blk_frozen BK198.out 11; have hfz6_12 := blk_frozen BK198.out 12; have hfz6_13 := blk_frozen BK198.out 13; have hfz6_14 := blk_frozen BK198.out 14; have hfz6_15 := blk_frozen BK198.out 15; have hfz6_16 := blk_frozen BK198.out 16; have hfz6_17 := blk_frozen BK198.out 17) | ((with_reducible refine gate_callee (f := 44) rfl ?_); refine goesL_ (some 5) rfl rfl Try.func44 (by kernel_rfl) rfl #[.int .i64 a0_0, .int .i64 0, .int .i64 1000000000] rfl (by (try simp only [List.map_toArray, List.map_cons, List.map_nil]); first | done | rfl | (simp only [List.length_drop, List.length_take]; rfl)) ?_; (with_reducible refine (impl_in.calls a0_0 0 1000000000 true _ A2.out).mono ?_); rintro e w' ⟨rfl, ⟨nd, rfl⟩⟩; refine ⟨_, rfl, ?_⟩) | (go_at_call 44; (with_reducible refine (impl_in.calls a0_1 0 1000000 t200 _ A4.out).mono ?_); rintro e w' ⟨rfl, ⟨nd, rfl⟩⟩))
 go_ret
 exact ⟨by first | rfl | (simp [errW_none, errW_some] <;> rfl) | (simp [*, errW_none, errW_some] <;> rfl), belowNow⟩
end Go.Proofs.Ytbgdmbjipladoaa.PFnExactPlay
