-- laid by a program of this session (wip/lay/lay.py); Lean checks it
import Derived.Test.YtbgdmbjipladoaaVFnExactPlayShort
import Derived.Test.YtbgdmbjipladoaaPFnExactPlayx0
import Derived.Test.YtbgdmbjipladoaaPFnExactPlayx7
namespace Go.Proofs.Ytbgdmbjipladoaa.PFnExactPlay
-- squashed
open Go.RowKit Go.Proofs.YtbgdmbjipladoaaW.PrintWords Go.Proofs.YtbgdmbjipladoaaW.PrintLast Go.Proofs.YtbgdmbjipladoaaW.PrintMore Go.Proofs.Ytbgdmbjipladoaa.Short
attribute [local go_sem] max2_int min2_int max_two min_two max_three min_three max_four min_four   -- for this text's walks alone
set_option linter.unusedVariables false
set_option linter.unusedSimpArgs false

theorem cz9_ {w : World} {g : Nat} {t : TypeId} {cs : Array Value} {v : Value} (h : w.heap[g]? = some (.cells cs t (0, 0))) (i : Nat) (e : cs[i]? = some v) : w.cell? ⟨g, i, none⟩ = some v := (blk_cell h i).trans e
theorem nn9_ {a b : Nat} (h : a ≠ b) : a ≠ b ∧ b ≠ a := ⟨h, h.symm⟩
/-! ### impl_Packet: function 66 -/
def impl_Packet.f (l0 : List S44) : Option (List S44) := if l0.length < 4398046511104 then some l0 else none
theorem impl_Packet.info : (Try.prog.info? 44).map (fun i => (i.zero, i.size, i.bytes)) = some (some (.agg #[(.int .i64 0), (.int .i64 0), (.int .u8 0), (.int .u8 0), (.int .u8 0), (.int .u8 0), (.int .u8 0), (.int .u8 0), (.int .u8 0), (.int .u8 0), (.int .u8 0), (.int .u8 0), (.int .u8 0), (.int .u8 0), (.int .u8 0), (.int .u8 0), (.int .u8 0), (.int .u8 0)]), 18, 32) := by kernel_rfl
set_option maxHeartbeats 8000000 in
set_option maxRecDepth 100000 in
theorem impl_Packet.calls (A0 : Option Addr) (c0 : Nat) (l0 : List S44) (r : List S44) (w : World) (hr0 : Kd.C k44 w A0 l0.length l0) (hc0 : l0.length ≤ c0) (h : impl_Packet.f l0 = some r) :
  Calls Try.prog 66 #[.slice A0 l0.length c0] w fun e w' => ∃ v0_ : Value, e = .returned (v0_) ∧ Kd.R k44 44 w' w.heap.size (fun _ => True) v0_ r ∧ Below w.heap.size w w' := by
 by_cases hl : l0.length < 4398046511104
 case neg => rw [impl_Packet.f, if_neg hl] at h; cases h
 rw [impl_Packet.f, if_pos hl] at h; obtain rfl := Option.some.inj h; clear h
 have qT : ∀ (w : World) (a : Option Addr) (n c n' c' : Nat), (binOp .eql 26 (.slice a n c) (.slice none n' c')).run Try.prog w = .ok (.bool a.isNone) w := fun w a n c n' c' => Lib.run_eql_slice_nil w _ _ a n c n' c' Try.underlying26
 have HR := am_ hr0; have HL := am_ hl
 cases A0 with
 | none =>
  have e0 : l0 = [] := by
   cases l0 with
   | nil => rfl
   | cons x t => obtain ⟨ad, _, e, _⟩ := Kd.C_get hr0 x 0 (by omega) (by simp only [List.length_cons]; omega); cases e
  subst e0; clear hr0 hc0 hl
  go_enter Try.func66, Try.ntmps66
  go_wp2
  go_ret
  exact ⟨_, rfl, Kd.R_nil k44 44 _ _ _, Below.refl _ _⟩
 | some ad =>
  clear hr0 hc0 hl; have HB := am_ (Below.refl w.heap.size w)
  go_enter Try.func66, Try.ntmps66
  go_wp2_with (first | ((with_reducible refine gate_dst (N := 5) rfl ?_); refine Kd.R_lit k44 _ 44 ?hg (N := 5) ?hd (xs := ([] : List S44)) (inner := []) (ok := fun _ => True) (okp := fun _ => True) ?hr ?hp (fun _ hk => hk) trivial (Below.refl _ _) (Nat.le_refl _) (by simp) ?_; (case hd => rfl); (case hg => rfl); (case hr => first | (go_simp; done) | (go_simp; rfl)); (case hp => exact (Reps.none _ _)); intro v5 w5 ho hb hg_ hnew_; have n0_ := am_ (Kd.R_lower ho (below_size HB.out)); have n1_ := am_ (below_step HB.out hb); clear HB; have HB := n1_; have HO := n0_; clear n0_ n1_ hg_ hnew_ hb ho ) | ((with_reducible refine gate_builtin (b := .append) (xs := #[.tmp 5, .tmp 6]) rfl ?_); refine Kd.R_append_rows k44 (w0 := w) w.heap.size rfl (.tmp 5) (.tmp 6) 26 44 (.agg #[(.int .i64 0), (.int .i64 0), (.int .u8 0), (.int .u8 0), (.int .u8 0), (.int .u8 0), (.int .u8 0), (.int .u8 0), (.int .u8 0), (.int .u8 0), (.int .u8 0), (.int .u8 0), (.int .u8 0), (.int .u8 0), (.int .u8 0), (.int .u8 0), (.int .u8 0), (.int .u8 0)]) 32 rfl Try.underlying26 impl_Packet.info rfl (by decide) (by omega) v5 [] l0 _ _ _ (fun _ => True) (fun _ => False) rfl rfl ?aO ?aR (fun _ _ h => h) (fun _ h => h.elim) ?aF ?aB ?aS ?aL ?_; (case aR => repeat (first | exact (Kd.C_below HR.out HB.out) | (with_reducible refine Kd.C_alloc ?_ _) | (with_reducible refine Kd.C_drewN ?_ _) | (with_reducible refine Kd.C_drew ?_))); (case aB => exact HB.out); (case aF => exact (fun _ _ => trivial)); (case aO => exact HO.out); (case aS => exact (below_size HB.out)); (case aL => have := HL.out; simp only [List.length_nil]; omega); intro v7 w7 ho hb hg hat; have n0_ := am_ hb; have n1_ := am_ ho; clear HB HO; have HB := n0_; have HO := n1_; clear n0_ n1_ ho hb hg hat))
  go_ret
  exact ⟨_, rfl, by simpa using HO.out, HB.out⟩

/-! ### impl_ownPlayer: function 54 -/
def impl_ownPlayer.f (a0_0 : Int) (a0_1 : Int) (a0_2 : Int) (a0_3 : Int) (a0_4 : Int) (l0_5 : List (S44)) : Option (Int × Int × Int × Int × Int × (List (S44))) := (impl_Packet.f l0_5).bind fun t203 => (some (a0_0, a0_1, a0_2, a0_3, a0_4, t203))
set_option maxHeartbeats 8000000 in
set_option maxRecDepth 100000 in
theorem impl_ownPlayer.calls (a0_0 : Int) (a0_1 : Int) (a0_2 : Int) (a0_3 : Int) (a0_4 : Int) (A0_5 : Option Addr) (c0_5 : Nat) (l0_5 : List (S44)) (r1 : Int) (r2 : Int) (r3 : Int) (r4 : Int) (r5 : Int) (r6 : List (S44)) (w : World) (hr0_5 : Kd.C k44 w A0_5 l0_5.length l0_5) (hc0_5 : l0_5.length ≤ c0_5) (h : impl_ownPlayer.f a0_0 a0_1 a0_2 a0_3 a0_4 l0_5 = some (r1, r2, r3, r4, r5, r6)) :
  Calls Try.prog 54 #[.agg #[.int .i64 a0_0, .int .i64 a0_1, .int .i64 a0_2, .int .i64 a0_3, .int .i64 a0_4, .slice A0_5 l0_5.length c0_5]] w fun e w' => ∃ v5_ : Value, e = .returned (.agg #[.int .i64 r1, .int .i64 r2, .int .i64 r3, .int .i64 r4, .int .i64 r5, v5_]) ∧ Kd.R k44 44 w' w.heap.size (fun _ => True) v5_ r6 ∧ Below w.heap.size w w' := by
 have hu35 := Try.underlying35; have HR0_5 := am_ hr0_5; have HC0_5 := am_ hc0_5; clear hr0_5 hc0_5; have HB := am_ (Below.refl w.heap.size w)
 have H : ((impl_Packet.f l0_5).bind fun t203 => (some (a0_0, a0_1, a0_2, a0_3, a0_4, t203))) = some (r1, r2, r3, r4, r5, r6) := h
 clear h; replace H := Option.bind_eq_some_iff.mp H; obtain ⟨t203, A20, H⟩ := H
 replace H : (some (a0_0, a0_1, a0_2, a0_3, a0_4, t203)) = some (r1, r2, r3, r4, r5, r6) := H
 have A2 := am_ A20; clear A20; simp only [Option.some.injEq, Prod.mk.injEq] at H; obtain ⟨rfl, rfl, rfl, rfl, rfl, rfl⟩ := H
 go_enter Try.func54, Try.ntmps54
 go_wp2_with (first | ((with_reducible refine gate_dst (N := 1) rfl ?_); refine box_event ?hg (N := 1) ?hd (cs := #[.int .i64 a0_0, .int .i64 a0_1, .int .i64 a0_2, .int .i64 a0_3, .int .i64 a0_4, .slice A0_5 l0_5.length c0_5]) (t := 35) ?hr ?_; (case hd => rfl); (case hg => rfl); (case hr => first | (go_simp; done) | (go_simp; rfl)); intro gb201 hg w3 hbox hb; have n0_ := am_ (below_step belowNow hb); have n1_ := am_ (hbox); have n2_ := am_ ((by rw [hg]; exact (below_size belowNow) : w.heap.size ≤ gb201)); have n3_ := n2_; clear HB; have HB := n0_; have BK201 := n1_; have GW201 := n2_; have GE201 := n3_; clear n0_ n1_ n2_ n3_; clear hb hbox hg) | ((with_reducible refine gate_dst (N := 2) rfl ?_); refine box_event ?hg (N := 2) ?hd (cs := #[.int .i64 0, .int .i64 0, .int .i64 0, .int .i64 0, .int .i64 0, .slice none 0 0]) (t := 35) ?hr ?_; (case hd => rfl); (case hg => rfl); (case hr => first | (go_simp; done) | (go_simp; rfl)); intro gb202 hg w4 hbox hb; have n0_ := am_ (blkStep (g := gb201) hb); have n1_ := am_ (below_step belowNow hb); have n2_ := am_ (hbox); have n3_ := am_ ((by rw [hg]; exact (below_size belowNow) : w.heap.size ≤ gb202)); have n4_ := n3_; have n5_ := am_ ((by rw [hg]; exact Nat.ne_of_lt (blkLt (g := gb201)) : gb201 ≠ gb202)); have n6_ := am_ ((by rw [hg]; exact Nat.ne_of_gt (blkLt (g := gb201)) : gb202 ≠ gb201)); clear BK201; clear HB; have BK201 := n0_; have HB := n1_; have BK202 := n2_; have GW202 := n3_; have GE202 := n4_; have NB201_202 := n5_; have NB202_201 := n6_; clear n0_ n1_ n2_ n3_ n4_ n5_ n6_; clear hb hbox hg; have ⟨hnb5, hnc5⟩ := nn9_ NB201_202.out; have hcz6_0 := cz9_ BK201.out 0 rfl; have hcz6_1 := cz9_ BK201.out 1 rfl; have hcz6_2 := cz9_ BK201.out 2 rfl; have hcz6_3 := cz9_ BK201.out 3 rfl; have hcz6_4 := cz9_ BK201.out 4 rfl; have hcz6_5 := cz9_ BK201.out 5 rfl; have hfz6_0 := blk_frozen BK201.out 0; have hfz6_1 := blk_frozen BK201.out 1; have hfz6_2 := blk_frozen BK201.out 2; have hfz6_3 := blk_frozen BK201.out 3; have hfz6_4 := blk_frozen BK201.out 4; have hfz6_5 := blk_frozen BK201.out 5) | ((with_reducible refine gate_callee (f := 66) rfl ?_); refine goesL_ (some 5) rfl rfl Try.func66 (by kernel_rfl) rfl #[.slice A0_5 l0_5.length c0_5] rfl (by (try simp only [List.map_toArray, List.map_cons, List.map_nil]); first | done | rfl | (simp only [List.length_drop, List.length_take]; rfl)) ?_; (with_reducible refine (impl_Packet.calls _ _ l0_5 t203 _ ?side1 ?side2 A2.out).mono ?_); (case side1 => repeat (first | exact (Kd.C_below HR0_5.out HB.out) | (with_reducible refine Kd.C_alloc ?_ _) | (with_reducible refine Kd.C_drewN ?_ _) | (with_reducible refine Kd.C_drew ?_))); (case side2 => exact HC0_5.out); rintro e w7 ⟨v204, rfl, ho0, hb⟩; refine ⟨_, rfl, ?_⟩; have HO205 := am_ (Kd.R_lower ho0 (below_size belowNow)); replace BK201 := am_ (blkStep (g := gb201) hb); replace BK202 := am_ (blkStep (g := gb202) hb); replace HB := am_ (below_step belowNow hb); (try clear hb); (try clear hb2); (try clear hk); (try clear hi); (try clear ho0); obtain ⟨Ao8, co8, eo8⟩ := Kd.R_slice HO205.out; subst eo8; have hcz9_0 := cz9_ BK201.out 0 rfl; have hcz9_1 := cz9_ BK201.out 1 rfl; have hcz9_2 := cz9_ BK201.out 2 rfl; have hcz9_3 := cz9_ BK201.out 3 rfl; have hcz9_4 := cz9_ BK201.out 4 rfl; have hcz9_5 := cz9_ BK201.out 5 rfl; have hfz9_0 := blk_frozen BK201.out 0; have hfz9_1 := blk_frozen BK201.out 1; have hfz9_2 := blk_frozen BK201.out 2; have hfz9_3 := blk_frozen BK201.out 3; have hfz9_4 := blk_frozen BK201.out 4; have hfz9_5 := blk_frozen BK201.out 5; have hcz10_0 := cz9_ BK202.out 0 rfl; have hcz10_1 := cz9_ BK202.out 1 rfl; have hcz10_2 := cz9_ BK202.out 2 rfl; have hcz10_3 := cz9_ BK202.out 3 rfl; have hcz10_4 := cz9_ BK202.out 4 rfl; have hcz10_5 := cz9_ BK202.out 5 rfl; have hfz10_0 := blk_frozen BK202.out 0; have hfz10_1 := blk_frozen BK202.out 1; have hfz10_2 := blk_frozen BK202.out 2; have hfz10_3 := blk_frozen BK202.out 3; have hfz10_4 := blk_frozen BK202.out 4; have hfz10_5 := blk_frozen BK202.out 5))
 refine bodyPost_ret (results_cell_row rfl _ _ gb202 35 #[.int .i64 a0_0, .int .i64 a0_1, .int .i64 a0_2, .int .i64 a0_3, .int .i64 a0_4, .slice Ao8 t203.length co8] (0, 0) _ rfl (by (with_reducible repeat (first | refine blk_drewN ?_ _ | refine blk_drew ?_ | refine blk_alloc ?_ _)); refine Far.put6_ #[.int .i64 0, .int .i64 0, .int .i64 0, .int .i64 0, .int .i64 0, .slice none 0 0] rfl ?_; (with_reducible repeat (first | refine blk_drewN ?_ _ | refine blk_drew ?_ | refine blk_alloc ?_ _)); refine blk_far ?_ NB202_201.out _; (with_reducible repeat (first | refine blk_drewN ?_ _ | refine blk_drew ?_ | refine blk_alloc ?_ _)); exact BK202.out) Try.underlying35 rfl (by kernel_rfl)) rfl ?_
 exact ⟨_, by first | rfl | (simp [errW_none, errW_some] <;> rfl) | (simp [*, errW_none, errW_some] <;> rfl), by (with_reducible repeat (first | apply Kd.R_alloc | apply Kd.R_drewN | apply Kd.R_drew)); exact Kd.R_mono (Far.rfar6_ (fun _ hk => hk.2) (Kd.R_far (p := ⟨gb201, 5, none⟩) (Kd.R_types (Kd.R_types HO205.out BK201.out (by decide)) BK202.out (by decide)) (fun _ hk => hk.1.2) (.slice Ao8 t203.length co8))) (fun _ hk => trivial), belowNow⟩

/-! ### impl_coderOk: function 79 -/
def impl_coderOk.f (a0_0 : Int) (a0_1 : Int) : Option (Bool) := (impl_in.f a0_0 (-32767) 32767).bind fun t207 => (if t207 = true then ((impl_in.f a0_1 0 48).bind fun t208 => (some t208)) else (some false))
set_option maxHeartbeats 8000000 in
set_option maxRecDepth 100000 in
theorem impl_coderOk.calls (a0_0 : Int) (a0_1 : Int) (r : Bool) (w : World) (h : impl_coderOk.f a0_0 a0_1 = some r) :
  Calls Try.prog 79 #[.agg #[.int .i64 a0_0, .int .i64 a0_1]] w fun e w' => e = .returned (.bool r) ∧ Below w.heap.size w w' := by
 have hu76 := Try.underlying76; have HB := am_ (Below.refl w.heap.size w)
 have H : ((impl_in.f a0_0 (-32767) 32767).bind fun t207 => (if t207 = true then ((impl_in.f a0_1 0 48).bind fun t208 => (some t208)) else (some false))) = some r := h
 clear h; replace H := Option.bind_eq_some_iff.mp H; obtain ⟨t207, A20, H⟩ := H
 replace H : (if t207 = true then ((impl_in.f a0_1 0 48).bind fun t208 => (some t208)) else (some false)) = some r := H
 have A2 := am_ A20; clear A20
 by_cases c3 : t207 = true
 case neg =>
  replace c3 := Bool.eq_false_iff.mpr c3; subst c3
  have H1 : (some false) = some r := by rw [if_neg (show ¬ (false = true) by decide)] at H; exact H
  clear H; have H := H1; clear H1; obtain rfl := Option.some.inj H
  go_enter Try.func79, Try.ntmps79
  go_wp2_with (first | ((with_reducible refine gate_dst (N := 1) rfl ?_); refine box_event ?hg (N := 1) ?hd (cs := #[.int .i64 a0_0, .int .i64 a0_1]) (t := 76) ?hr ?_; (case hd => rfl); (case hg => rfl); (case hr => first | (go_simp; done) | (go_simp; rfl)); intro gb206 hg w7 hbox hb; have n0_ := am_ (below_step belowNow hb); have n1_ := am_ (hbox); have n2_ := am_ ((by rw [hg]; exact (below_size belowNow) : w.heap.size ≤ gb206)); have n3_ := n2_; clear HB; have HB := n0_; have BK206 := n1_; have GW206 := n2_; have GE206 := n3_; clear n0_ n1_ n2_ n3_; clear hb hbox hg; have hcz8_0 := cz9_ BK206.out 0 rfl; have hcz8_1 := cz9_ BK206.out 1 rfl; have hfz8_0 := blk_frozen BK206.out 0; have hfz8_1 := blk_frozen BK206.out 1) | ((with_reducible refine gate_callee (f := 44) rfl ?_); refine goesL_ (some 5) rfl rfl Try.func44 (by kernel_rfl) rfl #[.int .i64 a0_0, .int .i64 (-32767), .int .i64 32767] rfl (by (try simp only [List.map_toArray, List.map_cons, List.map_nil]); first | done | rfl | (simp only [List.length_drop, List.length_take]; rfl)) ?_; (with_reducible refine (impl_in.calls a0_0 (-32767) 32767 false _ A2.out).mono ?_); rintro e w' ⟨rfl, ⟨nd, rfl⟩⟩; refine ⟨_, rfl, ?_⟩))
  go_ret
  exact ⟨by first | rfl | (simp [errW_none, errW_some] <;> rfl) | (simp [*, errW_none, errW_some] <;> rfl), belowNow⟩

 subst c3
 have H1 : ((impl_in.f a0_1 0 48).bind fun t208 => (some t208)) = some r := by rw [if_pos rfl] at H; exact H
 clear H; have H := H1; clear H1; replace H := Option.bind_eq_some_iff.mp H; obtain ⟨t208, A40, H⟩ := H
 replace H : (some t208) = some r := H
 have A4 := am_ A40; clear A40; obtain rfl := Option.some.inj H
 go_enter Try.func79, Try.ntmps79
 go_wp2_with (first | ((with_reducible refine gate_dst (N := 1) rfl ?_); refine box_event ?hg (N := 1) ?hd (cs := #[.int .i64 a0_0, .int .i64 a0_1]) (t := 76) ?hr ?_; (case hd => rfl); (case hg => rfl); (case hr => first | (go_simp; done) | (go_simp; rfl)); intro gb206 hg w5 hbox hb; have n0_ := am_ (below_step belowNow hb); have n1_ := am_ (hbox); have n2_ := am_ ((by rw [hg]; exact (below_size belowNow) : w.heap.size ≤ gb206)); have n3_ := n2_; clear HB; have HB := n0_; have BK206 := n1_; have GW206 := n2_; have GE206 := n3_; clear n0_ n1_ n2_ n3_; clear hb hbox hg; have hcz6_0 := cz9_ BK206.out 0 rfl; have hcz6_1 := cz9_ BK206.out 1 rfl; have hfz6_0 := blk_frozen BK206.out 0; have hfz6_1 := blk_frozen BK206.out 1) | ((with_reducible refine gate_callee (f := 44) rfl ?_); refine goesL_ (some 5) rfl rfl Try.func44 (by kernel_rfl) rfl #[.int .i64 a0_0, .int .i64 (-32767), .int .i64 32767] rfl (by (try simp only [List.map_toArray, List.map_cons, List.map_nil]); first | done | rfl | (simp only [List.length_drop, List.length_take]; rfl)) ?_; (with_reducible refine (impl_in.calls a0_0 (-32767) 32767 true _ A2.out).mono ?_); rintro e w' ⟨rfl, ⟨nd, rfl⟩⟩; refine ⟨_, rfl, ?_⟩) | (go_at_call 44; (with_reducible refine (impl_in.calls a0_1 0 48 t208 _ A4.out).mono ?_); rintro e w' ⟨rfl, ⟨nd, rfl⟩⟩))
 go_ret
 exact ⟨by first | rfl | (simp [errW_none, errW_some] <;> rfl) | (simp [*, errW_none, errW_some] <;> rfl), belowNow⟩
/-! ### impl_StepSize: function 86 -/
def impl_StepSize.l0 : Nat → Int → Int → Int → Option (Int)
 | 0, _, _, _ => none
 | k + 1, x3, x7, x8 => if x8 < x7 then (impl_StepSize.l0 k (wrap64 ((wrap64 (Int.tdiv (wrap64 (x3 * 11)) 10)) + 1)) x7 (wrap64 (x8 + 1))) else (some x3)
def impl_StepSize.f (k : Nat) (a0 : Int) : Option (Int) := (impl_in.f a0 0 48).bind fun t209 => (if t209 = true then (impl_StepSize.l0 k 7 a0 0) else (some 0))
theorem impl_StepSize.mono_l : ∀ k, (∀ y0 y1 y2, LeO (impl_StepSize.l0 k y0 y1 y2) (impl_StepSize.l0 (k + 1) y0 y1 y2))
 | 0 => fun _ _ _ r h => by simp [impl_StepSize.l0] at h
 | k + 1 => by
  have ih0 := impl_StepSize.mono_l k
  ·intro y0 y1 y2
   unfold impl_StepSize.l0
   repeat' first
   | (with_reducible exact ih0 _ _ _)
   | (with_reducible exact LeO.refl _)
   | (with_reducible exact LeO.none _)
   | (with_reducible refine LeO.ite ?_ ?_)
   | (with_reducible refine LeO.bind ?_ (fun _ => ?_))
   | exact ih0 _ _ _
   | exact LeO.none _
   | refine LeO.ite ?_ ?_
   | refine LeO.bind ?_ (fun _ => ?_)
theorem impl_StepSize.mono : ∀ a0 k, LeO (impl_StepSize.f k a0) (impl_StepSize.f (k + 1) a0) := by
 intro a0 k
 have ih0 := impl_StepSize.mono_l k
 unfold impl_StepSize.f
 repeat' first
   | (with_reducible exact ih0 _ _ _)
   | (with_reducible exact LeO.refl _)
   | (with_reducible exact LeO.none _)
   | (with_reducible refine LeO.ite ?_ ?_)
   | (with_reducible refine LeO.bind ?_ (fun _ => ?_))
   | exact ih0 _ _ _
   | exact LeO.none _
   | refine LeO.ite ?_ ?_
   | refine LeO.bind ?_ (fun _ => ?_)
set_option maxHeartbeats 8000000 in
set_option maxRecDepth 100000 in
theorem impl_StepSize.calls (k : Nat) (a0 : Int) (r : Int) (w : World) (h : impl_StepSize.f k a0 = some r) :
  Calls Try.prog 86 #[.int .i64 a0] w fun e w' => e = .returned (.int .i64 r) ∧ Drawn0 w w' := by
 have H : ((impl_in.f a0 0 48).bind fun t209 => (if t209 = true then (impl_StepSize.l0 k 7 a0 0) else (some 0))) = some r := h
 clear h; replace H := Option.bind_eq_some_iff.mp H; obtain ⟨t209, A20, H⟩ := H
 replace H : (if t209 = true then (impl_StepSize.l0 k 7 a0 0) else (some 0)) = some r := H
 have A2 := am_ A20; clear A20
 by_cases c3 : t209 = true
 case neg =>
  replace c3 := Bool.eq_false_iff.mpr c3; subst c3
  have H1 : (some 0) = some r := by rw [if_neg (show ¬ (false = true) by decide)] at H; exact H
  clear H; have H := H1; clear H1; obtain rfl := Option.some.inj H
  go_enter Try.func86, Try.ntmps86
  go_wp2_with (first | ((with_reducible refine gate_callee (f := 44) rfl ?_); refine goesL_ (some 5) rfl rfl Try.func44 (by kernel_rfl) rfl #[.int .i64 a0, .int .i64 0, .int .i64 48] rfl (by (try simp only [List.map_toArray, List.map_cons, List.map_nil]); first | done | rfl | (simp only [List.length_drop, List.length_take]; rfl)) ?_; (with_reducible refine (impl_in.calls a0 0 48 false _ A2.out).mono ?_); rintro e w' ⟨rfl, ⟨nd, rfl⟩⟩; refine ⟨_, rfl, ?_⟩))
  go_ret
  exact ⟨by first | rfl | (simp; done) | (simp [*]; done), by repeat (first | exact Drawn0.refl _ | apply Drawn0.step)⟩

 subst c3
 have H1 : (impl_StepSize.l0 k 7 a0 0) = some r := by rw [if_pos rfl] at H; exact H
 clear H; have H := H1; clear H1
 have H' := am_ H
 clear H
 go_enter Try.func86, Try.ntmps86
 go_wp2_with (first | ((with_reducible refine gate_callee (f := 44) rfl ?_); refine goesL_ (some 5) rfl rfl Try.func44 (by kernel_rfl) rfl #[.int .i64 a0, .int .i64 0, .int .i64 48] rfl (by (try simp only [List.map_toArray, List.map_cons, List.map_nil]); first | done | rfl | (simp only [List.length_drop, List.length_take]; rfl)) ?_; (with_reducible refine (impl_in.calls a0 0 48 true _ A2.out).mono ?_); rintro e w' ⟨rfl, ⟨nd, rfl⟩⟩; refine ⟨_, rfl, ?_⟩))
 go_loopg [3, 8] k (fun kq v3 v8 w' => ∃ (x3_1 : Int) (x8_1 : Int), v3 = .int .i64 x3_1 ∧ v8 = .int .i64 x8_1 ∧ Aside0 (impl_StepSize.l0 kq x3_1 a0 x8_1 = some r) ∧ Aside0 (kq ≤ k) ∧ Drawn0 w w')
 case atStart => exact ⟨(7), (0), (by first | rfl | (simp; done) | (simp [*]; done)), (by first | rfl | (simp; done) | (simp [*]; done)), H', ⟨Nat.le_refl _⟩, by repeat (first | exact Drawn0.refl _ | apply Drawn0.step)⟩
 case round =>
  clear H'
  (try clear p2); (try clear c3); obtain ⟨x3_1, x8_1, rfl, rfl, HA, HK1, ⟨m1, rfl⟩⟩ := hrel
  cases gk with
  | zero => exact absurd HA.out (by simp [impl_StepSize.l0])
  | succ k1 =>
   have H := HA.out; clear HA; simp only [impl_StepSize.l0] at H
   by_cases c4 : x8_1 < a0
   case neg =>
    rw [if_neg c4] at H; have c4b0 : decide (x8_1 < a0) = false := decide_eq_false c4; clear c4; obtain rfl := Option.some.inj H
    go_wp2
    go_ret
    exact ⟨by first | rfl | (simp; done) | (simp [*]; done), by repeat (first | exact Drawn0.refl _ | apply Drawn0.step)⟩
   rw [if_pos c4] at H; have c4b0 : decide (x8_1 < a0) = true := decide_eq_true c4; clear c4
   have H' := am_ H
   clear H
   go_wp2
   go_roundg k1
   case measure => have := HK1.out; omega
   case rel => exact ⟨(wrap64 ((wrap64 (Int.tdiv (wrap64 (x3_1 * 11)) 10)) + 1)), (wrap64 (x8_1 + 1)), (by first | rfl | (simp; done) | (simp [*]; done)), (by first | rfl | (simp; done) | (simp [*]; done)), H', ⟨by have := HK1.out; omega⟩, by repeat (first | exact Drawn0.refl _ | apply Drawn0.step)⟩
/-! ### impl_nearer: function 87 -/
def impl_nearer.f (a0 : Int) (a1 : Int) (a2 : Int) : Option (Int) := some (mn (mx a0 a1) a2)
set_option maxHeartbeats 8000000 in
set_option maxRecDepth 100000 in
theorem impl_nearer.calls (a0 : Int) (a1 : Int) (a2 : Int) (r : Int) (w : World) (h : impl_nearer.f a0 a1 a2 = some r) :
  Calls Try.prog 87 #[.int .i64 a0, .int .i64 a1, .int .i64 a2] w fun e w' => e = .returned (.int .i64 r) ∧ Below w.heap.size w w' := by
 have HB := am_ (Below.refl w.heap.size w); have H : (some (mn (mx a0 a1) a2)) = some r := h; clear h; obtain ⟨ji4, hji4⟩ : ∃ j_ : Int, (mx a0 a1) = j_ := ⟨_, rfl⟩
 replace H : (some (mn (ji4) a2)) = some r := by first | (rw [hji4] at H; exact H) | (simp only [hji4] at H ⊢; exact H)
 have hji4_ : (if a0 < a1 then a1 else a0) = ji4 := hji4; obtain ⟨ji5, hji5⟩ : ∃ j_ : Int, (mn (ji4) a2) = j_ := ⟨_, rfl⟩
 replace H : (some ji5) = some r := by first | (rw [hji5] at H; exact H) | (simp only [hji5] at H ⊢; exact H)
 have hji5_ : (if a2 < (ji4) then a2 else (ji4)) = ji5 := hji5; obtain rfl := Option.some.inj H
 go_enter Try.func87, Try.ntmps87
 go_wp2
 go_ret
 exact ⟨by first | rfl | (simp [errW_none, errW_some] <;> rfl) | (simp only [← hji4, ← hji5]; first | rfl | (simp [errW_none, errW_some] <;> rfl)) | (simp [*, errW_none, errW_some] <;> rfl), belowNow⟩

/-! ### impl_Coder_expand: function 80 -/
mutual
def impl_Coder_expand.j0 : Nat → Int → Int → Int → Int → Int → Int → Option (Int × Int)
 | 0, _, _, _, _, _, _ => none
 | k + 1, x1, x5, x6, x7, x211000, x211001 => if (Go.bits .and .i64 x6 2) > 0 then (impl_Coder_expand.j1 k x1 x5 x6 (wrap64 (x7 + (wrap64 (Int.tdiv x5 2)))) x211000 x211001) else (impl_Coder_expand.j1 k x1 x5 x6 x7 x211000 x211001)
def impl_Coder_expand.j1 : Nat → Int → Int → Int → Int → Int → Int → Option (Int × Int)
 | 0, _, _, _, _, _, _ => none
 | k + 1, x1, x5, x6, x7, x211000, x211001 => if (Go.bits .and .i64 x6 1) > 0 then (impl_Coder_expand.j2 k x1 x6 (wrap64 (x7 + (wrap64 (Int.tdiv x5 4)))) x211000 x211001) else (impl_Coder_expand.j2 k x1 x6 x7 x211000 x211001)
def impl_Coder_expand.j2 : Nat → Int → Int → Int → Int → Int → Option (Int × Int)
 | 0, _, _, _, _, _ => none
 | k + 1, x1, x6, x7, x211000, x211001 => if x1 ≥ 8 then ((impl_nearer.f (wrap64 (x211000 + (wrap64 (-x7)))) (-32767) 32767).bind fun t213 => ((some (([(-1), (-1), (-1), (-1), 2, 4, 6, 8] : List Int) : List Int)).bind fun y214 => (if 0 ≤ x6 then (if x6 < (y214.length : Int) then ((impl_nearer.f (wrap64 (x211001 + (rd y214 x6))) 0 48).bind fun t218 => (some (t213, t218))) else (none)) else (none)))) else ((impl_nearer.f (wrap64 (x211000 + x7)) (-32767) 32767).bind fun t219 => ((some (([(-1), (-1), (-1), (-1), 2, 4, 6, 8] : List Int) : List Int)).bind fun y220 => (if 0 ≤ x6 then (if x6 < (y220.length : Int) then ((impl_nearer.f (wrap64 (x211001 + (rd y220 x6))) 0 48).bind fun t224 => (some (t219, t224))) else (none)) else (none))))
end
def impl_Coder_expand.f (k : Nat) (a0_0 : Int) (a0_1 : Int) (a1 : Int) : Option (Int × Int) := (impl_StepSize.f k a0_1).bind fun t212 => (if (Go.bits .and .i64 (Go.bits .and .i64 a1 7) 4) > 0 then (impl_Coder_expand.j0 k a1 t212 (Go.bits .and .i64 a1 7) (wrap64 ((wrap64 (Int.tdiv t212 8)) + t212)) a0_0 a0_1) else (impl_Coder_expand.j0 k a1 t212 (Go.bits .and .i64 a1 7) (wrap64 (Int.tdiv t212 8)) a0_0 a0_1))
theorem impl_Coder_expand.mono_l : ∀ k, (∀ y0 y1 y2 y3 y4 y5, LeO (impl_Coder_expand.j0 k y0 y1 y2 y3 y4 y5) (impl_Coder_expand.j0 (k + 1) y0 y1 y2 y3 y4 y5)) ∧ (∀ y0 y1 y2 y3 y4 y5, LeO (impl_Coder_expand.j1 k y0 y1 y2 y3 y4 y5) (impl_Coder_expand.j1 (k + 1) y0 y1 y2 y3 y4 y5)) ∧ (∀ y0 y1 y2 y3 y4, LeO (impl_Coder_expand.j2 k y0 y1 y2 y3 y4) (impl_Coder_expand.j2 (k + 1) y0 y1 y2 y3 y4))
 | 0 => ⟨fun _ _ _ _ _ _ r h => by simp [impl_Coder_expand.j0] at h, fun _ _ _ _ _ _ r h => by simp [impl_Coder_expand.j1] at h, fun _ _ _ _ _ r h => by simp [impl_Coder_expand.j2] at h⟩
 | k + 1 => by
  obtain ⟨ih0, ih1, ih2⟩ := impl_Coder_expand.mono_l k
  refine ⟨?_, ?_, ?_⟩
  ·intro y0 y1 y2 y3 y4 y5
   unfold impl_Coder_expand.j0
   repeat' first
   | (with_reducible exact ih0 _ _ _ _ _ _)
   | (with_reducible exact ih1 _ _ _ _ _ _)
   | (with_reducible exact ih2 _ _ _ _ _)
   | (with_reducible exact impl_StepSize.mono _ _)
   | (with_reducible exact LeO.refl _)
   | (with_reducible exact LeO.none _)
   | (with_reducible refine LeO.ite ?_ ?_)
   | (with_reducible refine LeO.bind ?_ (fun _ => ?_))
   | exact ih0 _ _ _ _ _ _
   | exact ih1 _ _ _ _ _ _
   | exact ih2 _ _ _ _ _
   | exact impl_StepSize.mono _ _
   | exact LeO.none _
   | refine LeO.ite ?_ ?_
   | refine LeO.bind ?_ (fun _ => ?_)
  ·intro y0 y1 y2 y3 y4 y5
   unfold impl_Coder_expand.j1
   repeat' first
   | (with_reducible exact ih0 _ _ _ _ _ _)
   | (with_reducible exact ih1 _ _ _ _ _ _)
   | (with_reducible exact ih2 _ _ _ _ _)
   | (with_reducible exact impl_StepSize.mono _ _)
   | (with_reducible exact LeO.refl _)
   | (with_reducible exact LeO.none _)
   | (with_reducible refine LeO.ite ?_ ?_)
   | (with_reducible refine LeO.bind ?_ (fun _ => ?_))
   | exact ih0 _ _ _ _ _ _
   | exact ih1 _ _ _ _ _ _
   | exact ih2 _ _ _ _ _
   | exact impl_StepSize.mono _ _
   | exact LeO.none _
   | refine LeO.ite ?_ ?_
   | refine LeO.bind ?_ (fun _ => ?_)
  ·intro y0 y1 y2 y3 y4
   unfold impl_Coder_expand.j2
   repeat' first
   | (with_reducible exact ih0 _ _ _ _ _ _)
   | (with_reducible exact ih1 _ _ _ _ _ _)
   | (with_reducible exact ih2 _ _ _ _ _)
   | (with_reducible exact impl_StepSize.mono _ _)
   | (with_reducible exact LeO.refl _)
   | (with_reducible exact LeO.none _)
   | (with_reducible refine LeO.ite ?_ ?_)
   | (with_reducible refine LeO.bind ?_ (fun _ => ?_))
   | exact ih0 _ _ _ _ _ _
   | exact ih1 _ _ _ _ _ _
   | exact ih2 _ _ _ _ _
   | exact impl_StepSize.mono _ _
   | exact LeO.none _
   | refine LeO.ite ?_ ?_
   | refine LeO.bind ?_ (fun _ => ?_)
theorem impl_Coder_expand.mono : ∀ a0 a1 a2 k, LeO (impl_Coder_expand.f k a0 a1 a2) (impl_Coder_expand.f (k + 1) a0 a1 a2) := by
 intro a0 a1 a2 k
 obtain ⟨ih0, ih1, ih2⟩ := impl_Coder_expand.mono_l k
 unfold impl_Coder_expand.f
 repeat' first
   | (with_reducible exact ih0 _ _ _ _ _ _)
   | (with_reducible exact ih1 _ _ _ _ _ _)
   | (with_reducible exact ih2 _ _ _ _ _)
   | (with_reducible exact impl_StepSize.mono _ _)
   | (with_reducible exact LeO.refl _)
   | (with_reducible exact LeO.none _)
   | (with_reducible refine LeO.ite ?_ ?_)
   | (with_reducible refine LeO.bind ?_ (fun _ => ?_))
   | exact ih0 _ _ _ _ _ _
   | exact ih1 _ _ _ _ _ _
   | exact ih2 _ _ _ _ _
   | exact impl_StepSize.mono _ _
   | exact LeO.none _
   | refine LeO.ite ?_ ?_
   | refine LeO.bind ?_ (fun _ => ?_)
def impl_Coder_expand.T12 : Bool × List (List Nat × List Nat) := (true, [([], []), ([0], [0]), ([], []), ([], []), ([2, 3], [2, 3]), ([4], [4]), ([1, 5], [1, 5]), ([6], [6]), ([0, 1, 2, 3, 4, 5, 6, 7], []), ([8, 7, 7, 0, 1, 2, 3, 4, 5, 6, 7], [7, 8])])
def impl_Coder_expand.B12 : List Nat := [0, 1, 0, 0, 12, 28, 63, 127, 255, 511]
theorem impl_Coder_expand.tab12 : rtab .any (opsOf Try.f80 12) = impl_Coder_expand.T12 := by kernel_rfl
theorem impl_Coder_expand.bits12 : waitsOk impl_Coder_expand.T12.2 impl_Coder_expand.B12 = true := by kernel_rfl
set_option maxHeartbeats 8000000 in
set_option maxRecDepth 100000 in
theorem impl_Coder_expand.calls (k : Nat) (a0_0 : Int) (a0_1 : Int) (a1 : Int) (r1 : Int) (r2 : Int) (w : World) (h : impl_Coder_expand.f k a0_0 a0_1 a1 = some (r1, r2)) :
  Calls Try.prog 80 #[.agg #[.int .i64 a0_0, .int .i64 a0_1], .int .i64 a1] w fun e w' => e = .returned (.agg #[.int .i64 r1, .int .i64 r2]) ∧ Below w.heap.size w w' := by
 have hu76 := Try.underlying76; have HB := am_ (Below.refl w.heap.size w)
 have H : ((impl_StepSize.f k a0_1).bind fun t212 => (if (Go.bits .and .i64 (Go.bits .and .i64 a1 7) 4) > 0 then (impl_Coder_expand.j0 k a1 t212 (Go.bits .and .i64 a1 7) (wrap64 ((wrap64 (Int.tdiv t212 8)) + t212)) a0_0 a0_1) else (impl_Coder_expand.j0 k a1 t212 (Go.bits .and .i64 a1 7) (wrap64 (Int.tdiv t212 8)) a0_0 a0_1))) = some (r1, r2) := h
 clear h; replace H := Option.bind_eq_some_iff.mp H; obtain ⟨t212, A30, H⟩ := H
 replace H : (if (Go.bits .and .i64 (Go.bits .and .i64 a1 7) 4) > 0 then (impl_Coder_expand.j0 k a1 t212 (Go.bits .and .i64 a1 7) (wrap64 ((wrap64 (Int.tdiv t212 8)) + t212)) a0_0 a0_1) else (impl_Coder_expand.j0 k a1 t212 (Go.bits .and .i64 a1 7) (wrap64 (Int.tdiv t212 8)) a0_0 a0_1)) = some (r1, r2) := H
 have A3 := am_ A30; clear A30; have HC4 := am_ H; clear H
 go_enter Try.func80, Try.ntmps80
 go_upto_if 17 with (first | ((with_reducible refine gate_dst (N := 2) rfl ?_); refine box_event ?hg (N := 2) ?hd (cs := #[.int .i64 a0_0, .int .i64 a0_1]) (t := 76) ?hr ?_; (case hd => rfl); (case hg => rfl); (case hr => first | (go_simp; done) | (go_simp; rfl)); intro gb210 hg w5 hbox hb; have n0_ := am_ (below_step belowNow hb); have n1_ := am_ (hbox); have n2_ := am_ ((by rw [hg]; exact (below_size belowNow) : w.heap.size ≤ gb210)); have n3_ := n2_; clear HB; have HB := n0_; have BK210 := n1_; have GW210 := n2_; have GE210 := n3_; clear n0_ n1_ n2_ n3_; clear hb hbox hg) | ((with_reducible refine gate_dst (N := 4) rfl ?_); refine box_event ?hg (N := 4) ?hd (cs := #[.int .i64 0, .int .i64 0]) (t := 76) ?hr ?_; (case hd => rfl); (case hg => rfl); (case hr => first | (go_simp; done) | (go_simp; rfl)); intro gb211 hg w6 hbox hb; have n0_ := am_ (blkStep (g := gb210) hb); have n1_ := am_ (below_step belowNow hb); have n2_ := am_ (hbox); have n3_ := am_ ((by rw [hg]; exact (below_size belowNow) : w.heap.size ≤ gb211)); have n4_ := n3_; have n5_ := am_ ((by rw [hg]; exact Nat.ne_of_lt (blkLt (g := gb210)) : gb210 ≠ gb211)); have n6_ := am_ ((by rw [hg]; exact Nat.ne_of_gt (blkLt (g := gb210)) : gb211 ≠ gb210)); clear BK210; clear HB; have BK210 := n0_; have HB := n1_; have BK211 := n2_; have GW211 := n3_; have GE211 := n4_; have NB210_211 := n5_; have NB211_210 := n6_; clear n0_ n1_ n2_ n3_ n4_ n5_ n6_; clear hb hbox hg; have ⟨hnb7, hnc7⟩ := nn9_ NB210_211.out; have hcz8_0 := cz9_ BK210.out 0 rfl; have hcz8_1 := cz9_ BK210.out 1 rfl; have hfz8_0 := blk_frozen BK210.out 0; have hfz8_1 := blk_frozen BK210.out 1) | ((with_reducible refine gate_callee (f := 86) rfl ?_); refine goesL_ (some 10) rfl rfl Try.func86 (by kernel_rfl) rfl #[.int .i64 a0_1] rfl (by (try simp only [List.map_toArray, List.map_cons, List.map_nil]); first | done | rfl | (simp only [List.length_drop, List.length_take]; rfl)) ?_; (with_reducible refine (impl_StepSize.calls k a0_1 t212 _ A3.out).mono ?_); rintro e w' ⟨rfl, ⟨nd, rfl⟩⟩; refine ⟨_, rfl, ?_⟩))
 (try simp only [Act.put, List.setIfInBounds_toArray, List.set_cons_zero, List.set_cons_succ])
 go_cut [7] (fun v7 wc => ∃ (kq : Nat) (x7_3 : Int), v7 = .int .i64 x7_3 ∧ Aside0 (impl_Coder_expand.j0 kq a1 t212 (Go.bits .and .i64 a1 7) x7_3 a0_0 a0_1 = some (r1, r2)) ∧ Aside0 (kq ≤ k) ∧ Aside0 (wc.heap[gb210]? = some (.cells #[.int .i64 a0_0, .int .i64 a0_1] 76 (0, 0))) ∧ Aside0 (wc.heap[gb211]? = some (.cells #[.int .i64 0, .int .i64 0] 76 (0, 0))) ∧ Aside0 (Below w.heap.size w wc))
 case first =>
  have H := HC4.out; clear HC4
  by_cases c9 : (Go.bits .and .i64 (Go.bits .and .i64 a1 7) 4) > 0
  case neg =>
   rw [if_neg c9] at H; have c9b0 : decide (0 < (Go.bits .and .i64 (Go.bits .and .i64 a1 7) 4)) = false := decide_eq_false c9; clear c9
   (first | rw [c9b0] | (simp only [i64_w, i32_w]; rw [c9b0]) | (rw [c9b2]; try simp only [Bool.not_false, Bool.not_true]) | skip)
   have H' := am_ H
   clear H
   go_wp2
   go_meet
   case rel => exact ⟨_, (wrap64 (Int.tdiv t212 8)), (by first | rfl | (simp; done) | (simp [*]; done)), H', ⟨by first | omega | exact Nat.le_refl _⟩, ⟨pB_ BK210.out⟩, ⟨pB_ BK211.out⟩, ⟨belowNow⟩⟩
  rw [if_pos c9] at H; have c9b0 : decide (0 < (Go.bits .and .i64 (Go.bits .and .i64 a1 7) 4)) = true := decide_eq_true c9; clear c9
  (first | rw [c9b0] | (simp only [i64_w, i32_w]; rw [c9b0]) | (rw [c9b2]; try simp only [Bool.not_false, Bool.not_true]) | skip)
  have H' := am_ H
  clear H
  go_wp2
  go_meet
  case rel => exact ⟨_, (wrap64 ((wrap64 (Int.tdiv t212 8)) + t212)), (by first | rfl | (simp; done) | (simp [*]; done)), H', ⟨by first | omega | exact Nat.le_refl _⟩, ⟨pB_ BK210.out⟩, ⟨pB_ BK211.out⟩, ⟨belowNow⟩⟩
 case rest =>
  clear HC4; (try clear p2); (try clear p6); (try clear c7); (try clear c8); (try clear c9); (try clear c9b0); (try clear hcz8_0 hcz8_1 hfz8_0 hfz8_1); obtain ⟨kq, x7_3, rfl, HA, HJ3, BK210, BK211, HB⟩ := hcut
  cases kq with
  | zero => exact absurd HA.out (by simp [impl_Coder_expand.j0])
  | succ kj3 =>
   have H := HA.out; clear HA; simp only [impl_Coder_expand.j0] at H; have HC10 := am_ H; clear H
   go_upto_if 23 with (fail)
   go_cut [7] (fun v7 wc => ∃ (kq : Nat) (x7_9 : Int), v7 = .int .i64 x7_9 ∧ Aside0 (impl_Coder_expand.j1 kq a1 t212 (Go.bits .and .i64 a1 7) x7_9 a0_0 a0_1 = some (r1, r2)) ∧ Aside0 (kq ≤ kj3) ∧ Aside0 (wc.heap[gb210]? = some (.cells #[.int .i64 a0_0, .int .i64 a0_1] 76 (0, 0))) ∧ Aside0 (wc.heap[gb211]? = some (.cells #[.int .i64 0, .int .i64 0] 76 (0, 0))) ∧ Aside0 (Below w.heap.size w wc))
   case first =>
    have H := HC10.out; clear HC10
    by_cases c11 : (Go.bits .and .i64 (Go.bits .and .i64 a1 7) 2) > 0
    case neg =>
     rw [if_neg c11] at H; have c11b0 : decide (0 < (Go.bits .and .i64 (Go.bits .and .i64 a1 7) 2)) = false := decide_eq_false c11; clear c11
     (first | rw [c11b0] | (simp only [i64_w, i32_w]; rw [c11b0]) | (rw [c11b2]; try simp only [Bool.not_false, Bool.not_true]) | skip)
     have H' := am_ H
     clear H
     go_wp2
     go_meet
     case rel => exact ⟨_, (x7_3), (by first | rfl | (simp; done) | (simp [*]; done)), H', ⟨by have := HJ3.out; first | omega | exact Nat.le_refl _⟩, ⟨pB_ BK210.out⟩, ⟨pB_ BK211.out⟩, ⟨belowNow⟩⟩
    rw [if_pos c11] at H; have c11b0 : decide (0 < (Go.bits .and .i64 (Go.bits .and .i64 a1 7) 2)) = true := decide_eq_true c11; clear c11
    (first | rw [c11b0] | (simp only [i64_w, i32_w]; rw [c11b0]) | (rw [c11b2]; try simp only [Bool.not_false, Bool.not_true]) | skip)
    have H' := am_ H
    clear H
    go_wp2
    go_meet
    case rel => exact ⟨_, (wrap64 (x7_3 + (wrap64 (Int.tdiv t212 2)))), (by first | rfl | (simp; done) | (simp [*]; done)), H', ⟨by have := HJ3.out; first | omega | exact Nat.le_refl _⟩, ⟨pB_ BK210.out⟩, ⟨pB_ BK211.out⟩, ⟨belowNow⟩⟩
   case rest =>
    clear HC10; (try clear c1); (try clear p2); (try clear p6); (try clear c7); (try clear c8); (try clear c9); (try clear c9b0); (try clear c11); (try clear c11b0); (try clear hcz8_0 hcz8_1 hfz8_0 hfz8_1); (try clear p2); (try clear p6); obtain ⟨kq, x7_9, rfl, HA, HJ9, BK210, BK211, HB⟩ := hcut
    cases kq with
    | zero => exact absurd HA.out (by simp [impl_Coder_expand.j1])
    | succ kj9 =>
     have H := HA.out; clear HA; simp only [impl_Coder_expand.j1] at H; have HC12 := am_ H; clear H
     go_upto_if 30 with (fail)
     go_cut [7] (fun v7 wc => ∃ (kq : Nat) (x7_11 : Int), v7 = .int .i64 x7_11 ∧ Aside0 (impl_Coder_expand.j2 kq a1 (Go.bits .and .i64 a1 7) x7_11 a0_0 a0_1 = some (r1, r2)) ∧ Aside0 (kq ≤ kj9) ∧ Aside0 (wc.heap[gb210]? = some (.cells #[.int .i64 a0_0, .int .i64 a0_1] 76 (0, 0))) ∧ Aside0 (wc.heap[gb211]? = some (.cells #[.int .i64 0, .int .i64 0] 76 (0, 0))) ∧ Aside0 (Below w.heap.size w wc))
     case first =>
      have H := HC12.out; clear HC12
      by_cases c13 : (Go.bits .and .i64 (Go.bits .and .i64 a1 7) 1) > 0
      case neg =>
       rw [if_neg c13] at H; have c13b0 : decide (0 < (Go.bits .and .i64 (Go.bits .and .i64 a1 7) 1)) = false := decide_eq_false c13; clear c13
       (first | rw [c13b0] | (simp only [i64_w, i32_w]; rw [c13b0]) | (rw [c13b2]; try simp only [Bool.not_false, Bool.not_true]) | skip)
       have H' := am_ H
       clear H
       go_wp2
       go_meet
       case rel => exact ⟨_, (x7_9), (by first | rfl | (simp; done) | (simp [*]; done)), H', ⟨by have := HJ3.out; have := HJ9.out; first | omega | exact Nat.le_refl _⟩, ⟨pB_ BK210.out⟩, ⟨pB_ BK211.out⟩, ⟨belowNow⟩⟩
      rw [if_pos c13] at H; have c13b0 : decide (0 < (Go.bits .and .i64 (Go.bits .and .i64 a1 7) 1)) = true := decide_eq_true c13; clear c13
      (first | rw [c13b0] | (simp only [i64_w, i32_w]; rw [c13b0]) | (rw [c13b2]; try simp only [Bool.not_false, Bool.not_true]) | skip)
      have H' := am_ H
      clear H
      go_wp2
      go_meet
      case rel => exact ⟨_, (wrap64 (x7_9 + (wrap64 (Int.tdiv t212 4)))), (by first | rfl | (simp; done) | (simp [*]; done)), H', ⟨by have := HJ3.out; have := HJ9.out; first | omega | exact Nat.le_refl _⟩, ⟨pB_ BK210.out⟩, ⟨pB_ BK211.out⟩, ⟨belowNow⟩⟩
     case rest =>
      clear HC12; (try clear c1); (try clear p2); (try clear p6); (try clear c7); (try clear c8); (try clear c9); (try clear c9b0); (try clear c11); (try clear c11b0); (try clear c13); (try clear c13b0); (try clear hcz8_0 hcz8_1 hfz8_0 hfz8_1); (try clear p2); (try clear p6); obtain ⟨kq, x7_11, rfl, HA, HJ11, BK210, BK211, HB⟩ := hcut
      cases kq with
      | zero => exact absurd HA.out (by simp [impl_Coder_expand.j2])
      | succ kj11 =>
       have H := HA.out; clear HA; simp only [impl_Coder_expand.j2] at H
       by_cases c14 : a1 ≥ 8
       case neg =>
        rw [if_neg c14] at H; have c14b0 : decide (8 ≤ a1) = false := decide_eq_false c14; clear c14; replace H := Option.bind_eq_some_iff.mp H; obtain ⟨t219, A320, H⟩ := H
        replace H : ((some (([(-1), (-1), (-1), (-1), 2, 4, 6, 8] : List Int) : List Int)).bind fun y220 => (if 0 ≤ (Go.bits .and .i64 a1 7) then (if (Go.bits .and .i64 a1 7) < (y220.length : Int) then ((impl_nearer.f (wrap64 (a0_1 + (rd y220 (Go.bits .and .i64 a1 7)))) 0 48).bind fun t224 => (some (t219, t224))) else (none)) else (none))) = some (r1, r2) := H
        have A32 := am_ A320; clear A320; obtain ⟨y220, hy220⟩ : ∃ y_ : List Int, y_ = (([(-1), (-1), (-1), (-1), 2, 4, 6, 8] : List Int)) := ⟨_, rfl⟩
        replace H : (if 0 ≤ (Go.bits .and .i64 a1 7) then (if (Go.bits .and .i64 a1 7) < (y220.length : Int) then ((impl_nearer.f (wrap64 (a0_1 + (rd y220 (Go.bits .and .i64 a1 7)))) 0 48).bind fun t224 => (some (t219, t224))) else (none)) else (none)) = some (r1, r2) := by first | (rw [hy220]; with_reducible exact H) | (have H2_ := (Option.bind_some _ _).symm.trans H; rw [hy220]; with_reducible exact H2_) | (have H2_ := (Option.bind_some _ _).symm.trans H; with_reducible exact H2_) | with_reducible exact H | (rw [hy220]; exact H) | exact H
        have Ny220 := am_ hy220; clear hy220
        by_cases c33 : 0 ≤ (Go.bits .and .i64 a1 7)
        case neg =>
         rw [if_neg c33] at H
         exact absurd H (by simp)

        rw [if_pos c33] at H; have c33b0 : decide (0 ≤ (Go.bits .and .i64 a1 7)) = true := decide_eq_true c33; clear c33
        by_cases c34 : (Go.bits .and .i64 a1 7) < (y220.length : Int)
        case neg =>
         rw [if_neg c34] at H
         exact absurd H (by simp)
        rw [if_pos c34] at H; have c34b0 : decide ((Go.bits .and .i64 a1 7) < (y220.length : Int)) = true := decide_eq_true c34; clear c34; replace H := Option.bind_eq_some_iff.mp H; obtain ⟨t224, A350, H⟩ := H
        replace H : (some (t219, t224)) = some (r1, r2) := H
        have A35 := am_ A350; clear A350; simp only [Option.some.injEq, Prod.mk.injEq] at H; obtain ⟨rfl, rfl⟩ := H; have ⟨hnb36, hnc36⟩ := nn9_ NB210_211.out; have hcz37_0 := cz9_ BK210.out 0 rfl; have hcz37_1 := cz9_ BK210.out 1 rfl; have hfz37_0 := blk_frozen BK210.out 0; have hfz37_1 := blk_frozen BK210.out 1
        try go_wp2_with (first | ((with_reducible refine gate_callee (f := 87) rfl ?_); refine goesL_ (some 43) rfl rfl Try.func87 (by kernel_rfl) rfl #[.int .i64 (wrap64 (a0_0 + x7_11)), .int .i64 (-32767), .int .i64 32767] rfl (by (try simp only [List.map_toArray, List.map_cons, List.map_nil]); first | done | rfl | (simp only [List.length_drop, List.length_take]; rfl)) ?_; (with_reducible refine (impl_nearer.calls (wrap64 (a0_0 + x7_11)) (-32767) 32767 t219 _ A32.out).mono ?_); rintro e w38 ⟨rfl, hb⟩; refine ⟨_, rfl, ?_⟩; replace BK210 := am_ (blkStep (g := gb210) hb); replace BK211 := am_ (blkStep (g := gb211) hb); replace HB := am_ (below_step belowNow hb); (try clear hb); (try clear hb2); (try clear hk); (try clear hi); have hcz39_0 := cz9_ BK210.out 0 rfl; have hcz39_1 := cz9_ BK210.out 1 rfl; have hfz39_0 := blk_frozen BK210.out 0; have hfz39_1 := blk_frozen BK210.out 1))
        have pi223 : (0 ≤ ((Go.bits .and .i64 a1 7) : Int)) = True := eq_true (of_decide_eq_true (by first | (with_reducible assumption) | assumption))
        have qi223 : ((Go.bits .and .i64 a1 7) < (y220.length : Int)) = True := eq_true (of_decide_eq_true (by first | (with_reducible assumption) | assumption))
        obtain ⟨w40, hw40_⟩ : ∃ w_, w_ = (w38.setCell ⟨gb210, 0, none⟩ (.int .i64 t219)) := ⟨_, rfl⟩
        rw [← hw40_]
        have n0_ : Aside0 (w40.heap[gb210]? = some (.cells #[.int .i64 t219, .int .i64 a0_1] 76 (0, 0))) := ⟨by rw [hw40_]; (with_reducible repeat (first | refine blk_drewN ?_ _ | refine blk_drew ?_ | refine blk_alloc ?_ _)); refine blk_put (cs := #[.int .i64 a0_0, .int .i64 a0_1]) ?_ 0 _ rfl; (with_reducible repeat (first | refine blk_drewN ?_ _ | refine blk_drew ?_ | refine blk_alloc ?_ _)); exact BK210.out⟩
        have n1_ : Aside0 (w40.heap[gb211]? = some (.cells #[.int .i64 0, .int .i64 0] 76 (0, 0))) := ⟨by rw [hw40_]; (with_reducible repeat (first | refine blk_drewN ?_ _ | refine blk_drew ?_ | refine blk_alloc ?_ _)); refine blk_far ?_ NB211_210.out _; (with_reducible repeat (first | refine blk_drewN ?_ _ | refine blk_drew ?_ | refine blk_alloc ?_ _)); exact BK211.out⟩
        have n2_ : Aside0 (Below w.heap.size w w40) := ⟨by rw [hw40_]; repeat (first | (with_reducible first | exact HB.out | apply below_alloc | apply pw_below_drewN | apply below_drew1 | refine below_set ?_ GE210.out | refine below_set ?_ GE211.out) | exact HB.out)⟩
        clear hw40_; (try clear BK210); (try clear BK211); (try clear HB); have BK210 := n0_; have BK211 := n1_; have HB := n2_; clear n0_ n1_ n2_; have n0_ := am_ (blk_drew BK210.out); have n1_ := am_ (blk_drew BK211.out); have n2_ := am_ (below_drew1 HB.out); clear BK210 BK211 HB; have BK210 := n0_; have BK211 := n1_; have HB := n2_; clear n0_ n1_ n2_
        refine start_ (n := 10) (S := fun w' => w'.cell? ⟨gb210, 0, none⟩ = some (.int .i64 t219) ∧ w'.cell? ⟨gb210, 1, none⟩ = some (.int .i64 a0_1)) (ds := [9]) #[false, false, false, false, false, false, false, false, false, false] (by kernel_rfl) rfl rfl ⟨(blk_cell BK210.out 0).trans rfl, (blk_cell BK210.out 1).trans rfl⟩ (fun hHeld => ?_); refine with_tabW impl_Coder_expand.tab12 impl_Coder_expand.bits12 (fun HT_ HW_ => ?_)
        generalize w40.drew = w41 at BK210 BK211 HB hHeld ⊢
        refine pure_ (i := 0) (N := some 45) (v := ?_) (a' := ?_) #[true, false, false, false, false, false, false, false, false, false] rfl rfl (any_of HT_.out (by kernel_rfl)) (fun _ _ _ h => h) (Or.inl ⟨by rfl, ?_⟩) ?_ ?_
        rotate_left
        ·intro w'
         go_simp
         with_reducible rfl
        rotate_left
        ·simp only [Act.put, List.setIfInBounds_toArray, List.set_cons_zero, List.set_cons_succ, i64_w, i32_w]
         rfl
        refine pure_ (i := 3) (N := some 48) (v := ?_) (a' := ?_) #[true, false, false, true, false, false, false, false, false, false] rfl rfl (any_of HT_.out (by kernel_rfl)) (fun _ _ _ h => h) (Or.inl ⟨by rfl, ?_⟩) ?_ ?_
        rotate_left
        ·intro w'
         go_simp
         with_reducible rfl
        rotate_left
        ·simp only [Act.put, List.setIfInBounds_toArray, List.set_cons_zero, List.set_cons_succ, i64_w, i32_w]
         rfl
        refine take_ (i := 1) (N := some 46) (v := ?_) (a' := ?_) #[true, true, false, true, false, false, false, false, false, false] rfl rfl (take_ofW HT_.out HW_.out (by kernel_rfl)) (fun _ _ _ h => h) (Or.inl ⟨by rfl, ?_⟩) hHeld ?_ ?_
        rotate_left
        ·rintro w' ⟨s0, s1⟩
         go_simp
         with_reducible rfl
        rotate_left
        ·simp only [Act.put, List.setIfInBounds_toArray, List.set_cons_zero, List.set_cons_succ, i64_w, i32_w]
         rfl
        refine one_ (i := 2) (N := some 47) #[true, true, true, true, false, false, false, false, false, false] rfl rfl (one_of HT_.out (by kernel_rfl)) (by decide) (fun K hK => ?_)
        refine Kd.R_lit_step (Kd.int .i64) _ 3 ?hg (N := 47) ?hd (xs := ([(-1), (-1), (-1), (-1), 2, 4, 6, 8] : List Int)) (inner := [.int .i64 (-1), .int .i64 (-1), .int .i64 (-1), .int .i64 (-1), .int .i64 2, .int .i64 4, .int .i64 6, .int .i64 8]) (ok := fun _ => True) (okp := fun _ => True) ?hr ?hp (fun _ hk => hk) trivial (Below.refl _ _) (Nat.le_refl _) (by simp) ?_; (case hd => rfl); (case hg => rfl); (case hr => first | (go_simp; done) | (go_simp; rfl)); (case hp => exact (Reps.one (show Kd.M (Kd.int .i64) _ _ _ (-1) [.int .i64 (-1)] from rfl) (Reps.one (show Kd.M (Kd.int .i64) _ _ _ (-1) [.int .i64 (-1)] from rfl) (Reps.one (show Kd.M (Kd.int .i64) _ _ _ (-1) [.int .i64 (-1)] from rfl) (Reps.one (show Kd.M (Kd.int .i64) _ _ _ (-1) [.int .i64 (-1)] from rfl) (Reps.one (show Kd.M (Kd.int .i64) _ _ _ 2 [.int .i64 2] from rfl) (Reps.one (show Kd.M (Kd.int .i64) _ _ _ 4 [.int .i64 4] from rfl) (Reps.one (show Kd.M (Kd.int .i64) _ _ _ 6 [.int .i64 6] from rfl) (Reps.one (show Kd.M (Kd.int .i64) _ _ _ 8 [.int .i64 8] from rfl) (Reps.none _ _))))))))))
        intro v221 w42 ho43 hb hg_ hnew_
        clear hg_ hnew_
        (first | rw [← Ny220.out] at ho43 | (simp only [Int.reduceToNat] at ho43; rw [← Ny220.out] at ho43))
        have n0_ := am_ (Kd.R_lower ho43 (below_size belowNow)); have n1_ := am_ (blkStep (g := gb210) hb); have n2_ := am_ (blkStep (g := gb211) hb); have n3_ := am_ (below_step belowNow hb); clear BK210 BK211 HB; have HO222 := n0_; have BK210 := n1_; have BK211 := n2_; have HB := n3_; clear n0_ n1_ n2_ n3_ hb ho43; obtain ⟨Ao44, co44, eo44⟩ := Kd.R_slice HO222.out; subst eo44
        obtain ⟨ado44, fo44, _⟩ := Kd.at_int (Kd.R_reads' HO222.out).2.2 0 (by decide) (by rw [Ny220.out]; simp)
        cases fo44
        refine hK.out _ _ ⟨(blk_cell BK210.out 0).trans rfl, (blk_cell BK210.out 1).trans rfl⟩ (fun hHeld => ?_)
        clear hK K
        refine norm_ (a' := ?_) ?_ ?_
        rotate_left
        ·show Act.put _ (some 47) _ = _
         simp only [Act.put, List.setIfInBounds_toArray, List.set_cons_zero, List.set_cons_succ, i64_w, i32_w]
         rfl
        refine pure_ (i := 4) (N := some 49) (v := ?_) (a' := ?_) #[true, true, true, true, true, false, false, false, false, false] rfl rfl (any_of HT_.out (by kernel_rfl)) (fun _ _ _ h => h) (Or.inl ⟨by rfl, ?_⟩) ?_ ?_
        rotate_left
        ·intro w'
         go_simp
         with_reducible rfl
        rotate_left
        ·simp only [Act.put, List.setIfInBounds_toArray, List.set_cons_zero, List.set_cons_succ, i64_w, i32_w]
         rfl
        refine one_ (i := 5) (N := some 50) #[true, true, true, true, true, true, false, false, false, false] rfl rfl (one_of HT_.out (by kernel_rfl)) (by decide) (fun K hK => ?_)
        (have p223 : 0 ≤ ((Go.bits .and .i64 a1 7) : Int) := of_decide_eq_true (by first | (with_reducible assumption) | assumption); have q223 : (Go.bits .and .i64 a1 7) < (y220.length : Int) := of_decide_eq_true (by first | (with_reducible assumption) | assumption); obtain ⟨ad223, e223, hx223_0⟩ := Kd.at_int (Kd.R_reads' HO222.out).2.2 (Go.bits .and .i64 a1 7) p223 q223; obtain rfl : ado44 = ad223 := (by injection e223))
        refine value_ (w1 := ?_) (v := ?_) (by rfl) rfl ?_ ?_
        rotate_left 2
        ·go_simp
         constructor
         ·rfl
         ·rfl
        clear hx223_0
        refine hK.out _ _ ⟨(blk_cell BK210.out 0).trans rfl, (blk_cell BK210.out 1).trans rfl⟩ (fun hHeld => ?_)
        clear hK K
        refine norm_ (a' := ?_) ?_ ?_
        rotate_left
        ·show Act.put _ (some 50) _ = _
         simp only [Act.put, List.setIfInBounds_toArray, List.set_cons_zero, List.set_cons_succ, i64_w, i32_w]
         rfl
        refine pure_ (i := 6) (N := some 51) (v := ?_) (a' := ?_) #[true, true, true, true, true, true, true, false, false, false] rfl rfl (any_of HT_.out (by kernel_rfl)) (fun _ _ _ h => h) (Or.inl ⟨by rfl, ?_⟩) ?_ ?_
        rotate_left
        ·intro w'
         go_simp
         with_reducible rfl
        rotate_left
        ·simp only [Act.put, List.setIfInBounds_toArray, List.set_cons_zero, List.set_cons_succ, i64_w, i32_w]
         rfl
        refine one_ (i := 7) (N := some 52) #[true, true, true, true, true, true, true, true, false, false] rfl rfl (one_of HT_.out (by kernel_rfl)) (by decide) (fun K hK => ?_)
        refine goes_ Try.func87 (by kernel_rfl) rfl #[.int .i64 (wrap64 (a0_1 + (rd y220 (Go.bits .and .i64 a1 7)))), .int .i64 0, .int .i64 48] (by rfl) rfl rfl (by (try simp only [List.map_toArray, List.map_cons, List.map_nil]); first | done | rfl | (simp only [List.length_drop, List.length_take]; rfl)) ?_
        with_reducible refine (impl_nearer.calls (wrap64 (a0_1 + (rd y220 (Go.bits .and .i64 a1 7)))) 0 48 t224 _ A35.out).mono ?_
        rintro e w45 ⟨rfl, hb⟩
        refine ⟨_, rfl, ?_⟩
        have n0_ := am_ (Kd.R_below (pR_ HO222.out) hb)
        have n1_ := am_ (blkStep (g := gb210) hb); have n2_ := am_ (blkStep (g := gb211) hb); have n3_ := am_ (below_step belowNow hb); clear HO222 BK210 BK211 HB; have HO222 := n0_; have BK210 := n1_; have BK211 := n2_; have HB := n3_; clear n0_ n1_ n2_ n3_; (try clear hb); (try clear hb2); (try clear hk); (try clear hi)
        refine hK.out _ _ ⟨(blk_cell BK210.out 0).trans rfl, (blk_cell BK210.out 1).trans rfl⟩ (fun hHeld => ?_)
        clear hK K
        refine norm_ (a' := ?_) ?_ ?_
        rotate_left
        ·show Act.put _ (some 52) _ = _
         simp only [Act.put, List.setIfInBounds_toArray, List.set_cons_zero, List.set_cons_succ, i64_w, i32_w]
         rfl
        refine pure_ (i := 8) (N := some 53) (v := ?_) (a' := ?_) #[true, true, true, true, true, true, true, true, true, false] rfl rfl (any_of HT_.out (by kernel_rfl)) (fun _ _ _ h => h) (Or.inl ⟨by rfl, ?_⟩) ?_ ?_
        rotate_left
        ·intro w'
         go_simp
         with_reducible rfl
        rotate_left
        ·simp only [Act.put, List.setIfInBounds_toArray, List.set_cons_zero, List.set_cons_succ, i64_w, i32_w]
         rfl
        refine last_ (i := 9) (N := none) #[true, true, true, true, true, true, true, true, true, true] rfl rfl (one_of HT_.out (by kernel_rfl)) (by decide) (fun K hK => ?_)
        have hs46 : w45.cell? ⟨gb210, 1, none⟩ = some (.int .i64 a0_1) := (blk_cell BK210.out 1).trans rfl; have hfs46 := blk_frozen BK210.out 1; have hns46_1 := NB211_210.out; have hms46_1 := NB210_211.out
        refine skip_ (w1 := ?_) (by rfl) rfl ?_ ?_
        rotate_left
        ·go_simp
         rfl
        refine hK.out _ _ ?_
        clear hK K
        refine done_ (done_of HT_.out (by kernel_rfl)) ?_
        have hcz47_0 := cz9_ BK210.out 0 rfl; have hcz47_1 := cz9_ BK210.out 1 rfl; have hfz47_0 := blk_frozen BK210.out 0; have hfz47_1 := blk_frozen BK210.out 1; have hcz48_0 := cz9_ BK211.out 0 rfl; have hcz48_1 := cz9_ BK211.out 1 rfl; have hfz48_0 := blk_frozen BK211.out 0; have hfz48_1 := blk_frozen BK211.out 1
        try go_wp2
        refine bodyPost_ret (results_cell_row rfl _ _ gb211 76 #[.int .i64 t219, .int .i64 t224] (0, 0) _ rfl (by (with_reducible repeat (first | refine blk_drewN ?_ _ | refine blk_drew ?_ | refine blk_alloc ?_ _)); refine Far.put2_ #[.int .i64 0, .int .i64 0] rfl ?_; (with_reducible repeat (first | refine blk_drewN ?_ _ | refine blk_drew ?_ | refine blk_alloc ?_ _)); refine blk_far ?_ NB211_210.out _; (with_reducible repeat (first | refine blk_drewN ?_ _ | refine blk_drew ?_ | refine blk_alloc ?_ _)); exact BK211.out) Try.underlying76 rfl (by kernel_rfl)) rfl ?_
        exact ⟨by first | rfl | (simp [errW_none, errW_some] <;> rfl) | (simp [*, errW_none, errW_some] <;> rfl), belowNow⟩
       rw [if_pos c14] at H; have c14b0 : decide (8 ≤ a1) = true := decide_eq_true c14; clear c14; replace H := Option.bind_eq_some_iff.mp H; obtain ⟨t213, A150, H⟩ := H
       replace H : ((some (([(-1), (-1), (-1), (-1), 2, 4, 6, 8] : List Int) : List Int)).bind fun y214 => (if 0 ≤ (Go.bits .and .i64 a1 7) then (if (Go.bits .and .i64 a1 7) < (y214.length : Int) then ((impl_nearer.f (wrap64 (a0_1 + (rd y214 (Go.bits .and .i64 a1 7)))) 0 48).bind fun t218 => (some (t213, t218))) else (none)) else (none))) = some (r1, r2) := H
       have A15 := am_ A150; clear A150; obtain ⟨y214, hy214⟩ : ∃ y_ : List Int, y_ = (([(-1), (-1), (-1), (-1), 2, 4, 6, 8] : List Int)) := ⟨_, rfl⟩
       replace H : (if 0 ≤ (Go.bits .and .i64 a1 7) then (if (Go.bits .and .i64 a1 7) < (y214.length : Int) then ((impl_nearer.f (wrap64 (a0_1 + (rd y214 (Go.bits .and .i64 a1 7)))) 0 48).bind fun t218 => (some (t213, t218))) else (none)) else (none)) = some (r1, r2) := by first | (rw [hy214]; with_reducible exact H) | (have H2_ := (Option.bind_some _ _).symm.trans H; rw [hy214]; with_reducible exact H2_) | (have H2_ := (Option.bind_some _ _).symm.trans H; with_reducible exact H2_) | with_reducible exact H | (rw [hy214]; exact H) | exact H
       have Ny214 := am_ hy214; clear hy214
       by_cases c16 : 0 ≤ (Go.bits .and .i64 a1 7)
       case neg =>
        rw [if_neg c16] at H
        exact absurd H (by simp)
       rw [if_pos c16] at H; have c16b0 : decide (0 ≤ (Go.bits .and .i64 a1 7)) = true := decide_eq_true c16; clear c16
       by_cases c17 : (Go.bits .and .i64 a1 7) < (y214.length : Int)
       case neg =>
        rw [if_neg c17] at H
        exact absurd H (by simp)
       rw [if_pos c17] at H; have c17b0 : decide ((Go.bits .and .i64 a1 7) < (y214.length : Int)) = true := decide_eq_true c17; clear c17; replace H := Option.bind_eq_some_iff.mp H; obtain ⟨t218, A180, H⟩ := H
       replace H : (some (t213, t218)) = some (r1, r2) := H
       have A18 := am_ A180; clear A180; simp only [Option.some.injEq, Prod.mk.injEq] at H; obtain ⟨rfl, rfl⟩ := H; have ⟨hnb19, hnc19⟩ := nn9_ NB210_211.out; have hcz20_0 := cz9_ BK210.out 0 rfl; have hcz20_1 := cz9_ BK210.out 1 rfl; have hfz20_0 := blk_frozen BK210.out 0; have hfz20_1 := blk_frozen BK210.out 1
       try go_wp2_with (first | ((with_reducible refine gate_callee (f := 87) rfl ?_); refine goesL_ (some 43) rfl rfl Try.func87 (by kernel_rfl) rfl #[.int .i64 (wrap64 (a0_0 + (wrap64 (-x7_11)))), .int .i64 (-32767), .int .i64 32767] rfl (by (try simp only [List.map_toArray, List.map_cons, List.map_nil]); first | done | rfl | (simp only [List.length_drop, List.length_take]; rfl)) ?_; (with_reducible refine (impl_nearer.calls (wrap64 (a0_0 + (wrap64 (-x7_11)))) (-32767) 32767 t213 _ A15.out).mono ?_); rintro e w21 ⟨rfl, hb⟩; refine ⟨_, rfl, ?_⟩; replace BK210 := am_ (blkStep (g := gb210) hb); replace BK211 := am_ (blkStep (g := gb211) hb); replace HB := am_ (below_step belowNow hb); (try clear hb); (try clear hb2); (try clear hk); (try clear hi); have hcz22_0 := cz9_ BK210.out 0 rfl; have hcz22_1 := cz9_ BK210.out 1 rfl; have hfz22_0 := blk_frozen BK210.out 0; have hfz22_1 := blk_frozen BK210.out 1))
       have pi217 : (0 ≤ ((Go.bits .and .i64 a1 7) : Int)) = True := eq_true (of_decide_eq_true (by first | (with_reducible assumption) | assumption))
       have qi217 : ((Go.bits .and .i64 a1 7) < (y214.length : Int)) = True := eq_true (of_decide_eq_true (by first | (with_reducible assumption) | assumption))
       obtain ⟨w23, hw23_⟩ : ∃ w_, w_ = (w21.setCell ⟨gb210, 0, none⟩ (.int .i64 t213)) := ⟨_, rfl⟩
       rw [← hw23_]
       have n0_ : Aside0 (w23.heap[gb210]? = some (.cells #[.int .i64 t213, .int .i64 a0_1] 76 (0, 0))) := ⟨by rw [hw23_]; (with_reducible repeat (first | refine blk_drewN ?_ _ | refine blk_drew ?_ | refine blk_alloc ?_ _)); refine blk_put (cs := #[.int .i64 a0_0, .int .i64 a0_1]) ?_ 0 _ rfl; (with_reducible repeat (first | refine blk_drewN ?_ _ | refine blk_drew ?_ | refine blk_alloc ?_ _)); exact BK210.out⟩
       have n1_ : Aside0 (w23.heap[gb211]? = some (.cells #[.int .i64 0, .int .i64 0] 76 (0, 0))) := ⟨by rw [hw23_]; (with_reducible repeat (first | refine blk_drewN ?_ _ | refine blk_drew ?_ | refine blk_alloc ?_ _)); refine blk_far ?_ NB211_210.out _; (with_reducible repeat (first | refine blk_drewN ?_ _ | refine blk_drew ?_ | refine blk_alloc ?_ _)); exact BK211.out⟩
       have n2_ : Aside0 (Below w.heap.size w w23) := ⟨by rw [hw23_]; repeat (first | (with_reducible first | exact HB.out | apply below_alloc | apply pw_below_drewN | apply below_drew1 | refine below_set ?_ GE210.out | refine below_set ?_ GE211.out) | exact HB.out)⟩
       clear hw23_; (try clear BK210); (try clear BK211); (try clear HB); have BK210 := n0_; have BK211 := n1_; have HB := n2_; clear n0_ n1_ n2_; have n0_ := am_ (blk_drew BK210.out); have n1_ := am_ (blk_drew BK211.out); have n2_ := am_ (below_drew1 HB.out); clear BK210 BK211 HB; have BK210 := n0_; have BK211 := n1_; have HB := n2_; clear n0_ n1_ n2_
       refine start_ (n := 10) (S := fun w' => w'.cell? ⟨gb210, 0, none⟩ = some (.int .i64 t213) ∧ w'.cell? ⟨gb210, 1, none⟩ = some (.int .i64 a0_1)) (ds := [9]) #[false, false, false, false, false, false, false, false, false, false] (by kernel_rfl) rfl rfl ⟨(blk_cell BK210.out 0).trans rfl, (blk_cell BK210.out 1).trans rfl⟩ (fun hHeld => ?_); refine with_tabW impl_Coder_expand.tab12 impl_Coder_expand.bits12 (fun HT_ HW_ => ?_)
       generalize w23.drew = w24 at BK210 BK211 HB hHeld ⊢
       refine pure_ (i := 0) (N := some 45) (v := ?_) (a' := ?_) #[true, false, false, false, false, false, false, false, false, false] rfl rfl (any_of HT_.out (by kernel_rfl)) (fun _ _ _ h => h) (Or.inl ⟨by rfl, ?_⟩) ?_ ?_
       rotate_left
       ·intro w'
        go_simp
        with_reducible rfl
       rotate_left
       ·simp only [Act.put, List.setIfInBounds_toArray, List.set_cons_zero, List.set_cons_succ, i64_w, i32_w]
        rfl
       refine pure_ (i := 3) (N := some 48) (v := ?_) (a' := ?_) #[true, false, false, true, false, false, false, false, false, false] rfl rfl (any_of HT_.out (by kernel_rfl)) (fun _ _ _ h => h) (Or.inl ⟨by rfl, ?_⟩) ?_ ?_
       rotate_left
       ·intro w'
        go_simp
        with_reducible rfl
       rotate_left
       ·simp only [Act.put, List.setIfInBounds_toArray, List.set_cons_zero, List.set_cons_succ, i64_w, i32_w]
        rfl
       refine take_ (i := 1) (N := some 46) (v := ?_) (a' := ?_) #[true, true, false, true, false, false, false, false, false, false] rfl rfl (take_ofW HT_.out HW_.out (by kernel_rfl)) (fun _ _ _ h => h) (Or.inl ⟨by rfl, ?_⟩) hHeld ?_ ?_
       rotate_left
       ·rintro w' ⟨s0, s1⟩
        go_simp
        with_reducible rfl
       rotate_left
       ·simp only [Act.put, List.setIfInBounds_toArray, List.set_cons_zero, List.set_cons_succ, i64_w, i32_w]
        rfl
       refine one_ (i := 2) (N := some 47) #[true, true, true, true, false, false, false, false, false, false] rfl rfl (one_of HT_.out (by kernel_rfl)) (by decide) (fun K hK => ?_)
       refine Kd.R_lit_step (Kd.int .i64) _ 3 ?hg (N := 47) ?hd (xs := ([(-1), (-1), (-1), (-1), 2, 4, 6, 8] : List Int)) (inner := [.int .i64 (-1), .int .i64 (-1), .int .i64 (-1), .int .i64 (-1), .int .i64 2, .int .i64 4, .int .i64 6, .int .i64 8]) (ok := fun _ => True) (okp := fun _ => True) ?hr ?hp (fun _ hk => hk) trivial (Below.refl _ _) (Nat.le_refl _) (by simp) ?_; (case hd => rfl); (case hg => rfl); (case hr => first | (go_simp; done) | (go_simp; rfl)); (case hp => exact (Reps.one (show Kd.M (Kd.int .i64) _ _ _ (-1) [.int .i64 (-1)] from rfl) (Reps.one (show Kd.M (Kd.int .i64) _ _ _ (-1) [.int .i64 (-1)] from rfl) (Reps.one (show Kd.M (Kd.int .i64) _ _ _ (-1) [.int .i64 (-1)] from rfl) (Reps.one (show Kd.M (Kd.int .i64) _ _ _ (-1) [.int .i64 (-1)] from rfl) (Reps.one (show Kd.M (Kd.int .i64) _ _ _ 2 [.int .i64 2] from rfl) (Reps.one (show Kd.M (Kd.int .i64) _ _ _ 4 [.int .i64 4] from rfl) (Reps.one (show Kd.M (Kd.int .i64) _ _ _ 6 [.int .i64 6] from rfl) (Reps.one (show Kd.M (Kd.int .i64) _ _ _ 8 [.int .i64 8] from rfl) (Reps.none _ _))))))))))
       intro v215 w25 ho26 hb hg_ hnew_
       clear hg_ hnew_
       (first | rw [← Ny214.out] at ho26 | (simp only [Int.reduceToNat] at ho26; rw [← Ny214.out] at ho26))
       have n0_ := am_ (Kd.R_lower ho26 (below_size belowNow)); have n1_ := am_ (blkStep (g := gb210) hb); have n2_ := am_ (blkStep (g := gb211) hb); have n3_ := am_ (below_step belowNow hb); clear BK210 BK211 HB; have HO216 := n0_; have BK210 := n1_; have BK211 := n2_; have HB := n3_; clear n0_ n1_ n2_ n3_ hb ho26; obtain ⟨Ao27, co27, eo27⟩ := Kd.R_slice HO216.out; subst eo27
       obtain ⟨ado27, fo27, _⟩ := Kd.at_int (Kd.R_reads' HO216.out).2.2 0 (by decide) (by rw [Ny214.out]; simp)
       cases fo27
       refine hK.out _ _ ⟨(blk_cell BK210.out 0).trans rfl, (blk_cell BK210.out 1).trans rfl⟩ (fun hHeld => ?_)
       clear hK K
       refine norm_ (a' := ?_) ?_ ?_
       rotate_left
       ·show Act.put _ (some 47) _ = _
        simp only [Act.put, List.setIfInBounds_toArray, List.set_cons_zero, List.set_cons_succ, i64_w, i32_w]
        rfl
       refine pure_ (i := 4) (N := some 49) (v := ?_) (a' := ?_) #[true, true, true, true, true, false, false, false, false, false] rfl rfl (any_of HT_.out (by kernel_rfl)) (fun _ _ _ h => h) (Or.inl ⟨by rfl, ?_⟩) ?_ ?_
       rotate_left
       ·intro w'
        go_simp
        with_reducible rfl
       rotate_left
       ·simp only [Act.put, List.setIfInBounds_toArray, List.set_cons_zero, List.set_cons_succ, i64_w, i32_w]
        rfl
       refine one_ (i := 5) (N := some 50) #[true, true, true, true, true, true, false, false, false, false] rfl rfl (one_of HT_.out (by kernel_rfl)) (by decide) (fun K hK => ?_)
       (have p217 : 0 ≤ ((Go.bits .and .i64 a1 7) : Int) := of_decide_eq_true (by first | (with_reducible assumption) | assumption); have q217 : (Go.bits .and .i64 a1 7) < (y214.length : Int) := of_decide_eq_true (by first | (with_reducible assumption) | assumption); obtain ⟨ad217, e217, hx217_0⟩ := Kd.at_int (Kd.R_reads' HO216.out).2.2 (Go.bits .and .i64 a1 7) p217 q217; obtain rfl : ado27 = ad217 := (by injection e217))
       refine value_ (w1 := ?_) (v := ?_) (by rfl) rfl ?_ ?_
       rotate_left 2
       ·go_simp
        constructor
        ·rfl
        ·rfl
       clear hx217_0
       refine hK.out _ _ ⟨(blk_cell BK210.out 0).trans rfl, (blk_cell BK210.out 1).trans rfl⟩ (fun hHeld => ?_)
       clear hK K
       refine norm_ (a' := ?_) ?_ ?_
       rotate_left
       ·show Act.put _ (some 50) _ = _
        simp only [Act.put, List.setIfInBounds_toArray, List.set_cons_zero, List.set_cons_succ, i64_w, i32_w]
        rfl
       refine pure_ (i := 6) (N := some 51) (v := ?_) (a' := ?_) #[true, true, true, true, true, true, true, false, false, false] rfl rfl (any_of HT_.out (by kernel_rfl)) (fun _ _ _ h => h) (Or.inl ⟨by rfl, ?_⟩) ?_ ?_
       rotate_left
       ·intro w'
        go_simp
        with_reducible rfl
       rotate_left
       ·simp only [Act.put, List.setIfInBounds_toArray, List.set_cons_zero, List.set_cons_succ, i64_w, i32_w]
        rfl
       refine one_ (i := 7) (N := some 52) #[true, true, true, true, true, true, true, true, false, false] rfl rfl (one_of HT_.out (by kernel_rfl)) (by decide) (fun K hK => ?_)
       refine goes_ Try.func87 (by kernel_rfl) rfl #[.int .i64 (wrap64 (a0_1 + (rd y214 (Go.bits .and .i64 a1 7)))), .int .i64 0, .int .i64 48] (by rfl) rfl rfl (by (try simp only [List.map_toArray, List.map_cons, List.map_nil]); first | done | rfl | (simp only [List.length_drop, List.length_take]; rfl)) ?_
       with_reducible refine (impl_nearer.calls (wrap64 (a0_1 + (rd y214 (Go.bits .and .i64 a1 7)))) 0 48 t218 _ A18.out).mono ?_
       rintro e w28 ⟨rfl, hb⟩
       refine ⟨_, rfl, ?_⟩
       have n0_ := am_ (Kd.R_below (pR_ HO216.out) hb)
       have n1_ := am_ (blkStep (g := gb210) hb); have n2_ := am_ (blkStep (g := gb211) hb); have n3_ := am_ (below_step belowNow hb); clear HO216 BK210 BK211 HB; have HO216 := n0_; have BK210 := n1_; have BK211 := n2_; have HB := n3_; clear n0_ n1_ n2_ n3_; (try clear hb); (try clear hb2); (try clear hk); (try clear hi)
       refine hK.out _ _ ⟨(blk_cell BK210.out 0).trans rfl, (blk_cell BK210.out 1).trans rfl⟩ (fun hHeld => ?_)
       clear hK K
       refine norm_ (a' := ?_) ?_ ?_
       rotate_left
       ·show Act.put _ (some 52) _ = _
        simp only [Act.put, List.setIfInBounds_toArray, List.set_cons_zero, List.set_cons_succ, i64_w, i32_w]
        rfl
       refine pure_ (i := 8) (N := some 53) (v := ?_) (a' := ?_) #[true, true, true, true, true, true, true, true, true, false] rfl rfl (any_of HT_.out (by kernel_rfl)) (fun _ _ _ h => h) (Or.inl ⟨by rfl, ?_⟩) ?_ ?_
       rotate_left
       ·intro w'
        go_simp
        with_reducible rfl
       rotate_left
       ·simp only [Act.put, List.setIfInBounds_toArray, List.set_cons_zero, List.set_cons_succ, i64_w, i32_w]
        rfl
       refine last_ (i := 9) (N := none) #[true, true, true, true, true, true, true, true, true, true] rfl rfl (one_of HT_.out (by kernel_rfl)) (by decide) (fun K hK => ?_)
       have hs29 : w28.cell? ⟨gb210, 1, none⟩ = some (.int .i64 a0_1) := (blk_cell BK210.out 1).trans rfl; have hfs29 := blk_frozen BK210.out 1; have hns29_1 := NB211_210.out; have hms29_1 := NB210_211.out
       refine skip_ (w1 := ?_) (by rfl) rfl ?_ ?_
       rotate_left
       ·go_simp
        rfl
       refine hK.out _ _ ?_
       clear hK K
       refine done_ (done_of HT_.out (by kernel_rfl)) ?_
       have hcz30_0 := cz9_ BK210.out 0 rfl; have hcz30_1 := cz9_ BK210.out 1 rfl; have hfz30_0 := blk_frozen BK210.out 0; have hfz30_1 := blk_frozen BK210.out 1; have hcz31_0 := cz9_ BK211.out 0 rfl; have hcz31_1 := cz9_ BK211.out 1 rfl; have hfz31_0 := blk_frozen BK211.out 0; have hfz31_1 := blk_frozen BK211.out 1
       try go_wp2
       refine bodyPost_ret (results_cell_row rfl _ _ gb211 76 #[.int .i64 t213, .int .i64 t218] (0, 0) _ rfl (by (with_reducible repeat (first | refine blk_drewN ?_ _ | refine blk_drew ?_ | refine blk_alloc ?_ _)); refine Far.put2_ #[.int .i64 0, .int .i64 0] rfl ?_; (with_reducible repeat (first | refine blk_drewN ?_ _ | refine blk_drew ?_ | refine blk_alloc ?_ _)); refine blk_far ?_ NB211_210.out _; (with_reducible repeat (first | refine blk_drewN ?_ _ | refine blk_drew ?_ | refine blk_alloc ?_ _)); exact BK211.out) Try.underlying76 rfl (by kernel_rfl)) rfl ?_
       exact ⟨by first | rfl | (simp [errW_none, errW_some] <;> rfl) | (simp [*, errW_none, errW_some] <;> rfl), belowNow⟩
end Go.Proofs.Ytbgdmbjipladoaa.PFnExactPlay
