-- laid by a program of this session (wip/lay/lay.py); Lean checks it
import Derived.Test.YtbgdmbjipladoaaVFnExactPlayShort
import Derived.Test.YtbgdmbjipladoaaPFnExactPlayx0
import Derived.Test.YtbgdmbjipladoaaPFnExactPlayx2
namespace Go.Proofs.Ytbgdmbjipladoaa.PFnExactPlay
-- squashed
open Go.RowKit Go.Proofs.YtbgdmbjipladoaaW.PrintWords Go.Proofs.YtbgdmbjipladoaaW.PrintLast Go.Proofs.YtbgdmbjipladoaaW.PrintMore Go.Proofs.Ytbgdmbjipladoaa.Short
attribute [local go_sem] max2_int min2_int max_two min_two max_three min_three max_four min_four   -- for this text's walks alone
set_option linter.unusedVariables false
set_option linter.unusedSimpArgs false

private theorem cz_ {w : World} {g : Nat} {t : TypeId} {cs : Array Value} {v : Value} (h : w.heap[g]? = some (.cells cs t (0, 0))) (i : Nat) (e : cs[i]? = some v) : w.cell? ⟨g, i, none⟩ = some v := (blk_cell h i).trans e
/-! ### spec_PlayerOk: function 18 -/
mutual
def spec_PlayerOk.j0 : Nat → Bool → Int → Int → Int → Int → Int → List (S44) → Option (Bool)
 | 0, _, _, _, _, _, _, _ => none
 | k + 1, x32, x110000, x110001, x110002, x110003, x110004, x110005 => if x32 = true then (some false) else (spec_PlayerOk.l0 k 0 x110000 x110001 x110002 x110003 x110004 x110005)
def spec_PlayerOk.l0 : Nat → Int → Int → Int → Int → Int → Int → List (S44) → Option (Bool)
 | 0, _, _, _, _, _, _, _ => none
 | k + 1, x3, x110000, x110001, x110002, x110003, x110004, x110005 => if x3 < (x110005.length : Int) then (if 0 ≤ x3 then ((spec_l12Packet.f ((rd_T44 x110005 x3).f0) ((rd_T44 x110005 x3).f1) ((rd_T44 x110005 x3).f2.f0) ((rd_T44 x110005 x3).f2.f1) ((rd_T44 x110005 x3).f2.f2) ((rd_T44 x110005 x3).f2.f3) ((rd_T44 x110005 x3).f2.f4) ((rd_T44 x110005 x3).f2.f5) ((rd_T44 x110005 x3).f2.f6) ((rd_T44 x110005 x3).f2.f7) ((rd_T44 x110005 x3).f2.f8) ((rd_T44 x110005 x3).f2.f9) ((rd_T44 x110005 x3).f2.f10) ((rd_T44 x110005 x3).f2.f11) ((rd_T44 x110005 x3).f2.f12) ((rd_T44 x110005 x3).f2.f13) ((rd_T44 x110005 x3).f2.f14) ((rd_T44 x110005 x3).f2.f15)).bind fun t117 => (if t117 = true then ((spec_l1In.f ((rd_T44 x110005 x3).f1) x110000 (wrap64 ((wrap64 (x110000 + 12)) - 1))).bind fun t118 => (if t118 = true then (if x3 > 0 then (if 0 ≤ (wrap64 (x3 - 1)) then (if (wrap64 (x3 - 1)) < (x110005.length : Int) then (if ((rd_T44 x110005 (wrap64 (x3 - 1))).f1) ≥ ((rd_T44 x110005 x3).f1) then (some false) else (spec_PlayerOk.l0 k (wrap64 (x3 + 1)) x110000 x110001 x110002 x110003 x110004 x110005)) else (none)) else (none)) else (spec_PlayerOk.l0 k (wrap64 (x3 + 1)) x110000 x110001 x110002 x110003 x110004 x110005)) else (some false))) else (some false))) else (none)) else (some true)
end
def spec_PlayerOk.f (k : Nat) (a0_0 : Int) (a0_1 : Int) (a0_2 : Int) (a0_3 : Int) (a0_4 : Int) (l0_5 : List (S44)) : Option (Bool) := (spec_l12Seq.f a0_0).bind fun t110 => (if t110 = true then ((spec_l1In.f a0_1 1 12).bind fun t111 => (if t111 = true then ((spec_l4Tick.f a0_2).bind fun t112 => (if t112 = true then ((spec_l4Tick.f a0_3).bind fun t113 => (if t113 = true then ((spec_l2Level.f a0_4).bind fun t114 => (spec_PlayerOk.j0 k (!t114) a0_0 a0_1 a0_2 a0_3 a0_4 l0_5)) else (spec_PlayerOk.j0 k true a0_0 a0_1 a0_2 a0_3 a0_4 l0_5))) else (spec_PlayerOk.j0 k true a0_0 a0_1 a0_2 a0_3 a0_4 l0_5))) else (spec_PlayerOk.j0 k true a0_0 a0_1 a0_2 a0_3 a0_4 l0_5))) else (spec_PlayerOk.j0 k true a0_0 a0_1 a0_2 a0_3 a0_4 l0_5))
theorem spec_PlayerOk.mono_l : ∀ k, (∀ y0 y1 y2 y3 y4 y5 y6, LeO (spec_PlayerOk.j0 k y0 y1 y2 y3 y4 y5 y6) (spec_PlayerOk.j0 (k + 1) y0 y1 y2 y3 y4 y5 y6)) ∧ (∀ y0 y1 y2 y3 y4 y5 y6, LeO (spec_PlayerOk.l0 k y0 y1 y2 y3 y4 y5 y6) (spec_PlayerOk.l0 (k + 1) y0 y1 y2 y3 y4 y5 y6))
 | 0 => ⟨fun _ _ _ _ _ _ _ r h => by simp [spec_PlayerOk.j0] at h, fun _ _ _ _ _ _ _ r h => by simp [spec_PlayerOk.l0] at h⟩
 | k + 1 => by
  obtain ⟨ih0, ih1⟩ := spec_PlayerOk.mono_l k
  refine ⟨?_, ?_⟩
  ·intro y0 y1 y2 y3 y4 y5 y6
   unfold spec_PlayerOk.j0
   repeat' first
   | (with_reducible exact ih0 _ _ _ _ _ _ _)
   | (with_reducible exact ih1 _ _ _ _ _ _ _)
   | (with_reducible exact LeO.refl _)
   | (with_reducible exact LeO.none _)
   | (with_reducible refine LeO.ite ?_ ?_)
   | (with_reducible refine LeO.bind ?_ (fun _ => ?_))
   | exact ih0 _ _ _ _ _ _ _
   | exact ih1 _ _ _ _ _ _ _
   | exact LeO.none _
   | refine LeO.ite ?_ ?_
   | refine LeO.bind ?_ (fun _ => ?_)
  ·intro y0 y1 y2 y3 y4 y5 y6
   unfold spec_PlayerOk.l0
   repeat' first
   | (with_reducible exact ih0 _ _ _ _ _ _ _)
   | (with_reducible exact ih1 _ _ _ _ _ _ _)
   | (with_reducible exact LeO.refl _)
   | (with_reducible exact LeO.none _)
   | (with_reducible refine LeO.ite ?_ ?_)
   | (with_reducible refine LeO.bind ?_ (fun _ => ?_))
   | exact ih0 _ _ _ _ _ _ _
   | exact ih1 _ _ _ _ _ _ _
   | exact LeO.none _
   | refine LeO.ite ?_ ?_
   | refine LeO.bind ?_ (fun _ => ?_)
theorem spec_PlayerOk.mono : ∀ a0 a1 a2 a3 a4 a5 k, LeO (spec_PlayerOk.f k a0 a1 a2 a3 a4 a5) (spec_PlayerOk.f (k + 1) a0 a1 a2 a3 a4 a5) := by
 intro a0 a1 a2 a3 a4 a5 k
 obtain ⟨ih0, ih1⟩ := spec_PlayerOk.mono_l k
 unfold spec_PlayerOk.f
 repeat' first
   | (with_reducible exact ih0 _ _ _ _ _ _ _)
   | (with_reducible exact ih1 _ _ _ _ _ _ _)
   | (with_reducible exact LeO.refl _)
   | (with_reducible exact LeO.none _)
   | (with_reducible refine LeO.ite ?_ ?_)
   | (with_reducible refine LeO.bind ?_ (fun _ => ?_))
   | exact ih0 _ _ _ _ _ _ _
   | exact ih1 _ _ _ _ _ _ _
   | exact LeO.none _
   | refine LeO.ite ?_ ?_
   | refine LeO.bind ?_ (fun _ => ?_)
theorem spec_PlayerOk.load_run {P : Program} {o : Oper} {a : Act} {W : World} {T : TypeId} {p : Tmp} (ho : o.op = .load T (.tmp p)) {g : Nat} {cs : Array Value} {t : TypeId} {fr : Nat × Nat} {d : TypeDesc}
  (hp : a.eval (.tmp p) = .pointer (some ⟨g, 0, none⟩)) (hb : W.heap[g]? = some (.cells cs t fr)) (hu : P.underlying T = some d) (hr : (match d with | .struct _ | .array _ _ => true | _ => false) = true)
  (hi : (P.info? T).map (·.size) = some cs.size) : (execOp a.eval o).run P W = .ok (.value (.agg cs)) W := by
 have hrun : (Instr.loadAt T (.pointer (some ⟨g, 0, none⟩))).run P W = .ok (.agg cs) W := by
  simp only [Instr.loadAt, Instr.sureAddr, Sem.run_bind, Sem.run_pure, Result.andThen_ok, run_loadVar_row W g t T cs fr d hb hu hr hi]
 simp only [execOp, ho, hp]
 simp [hrun, Result.andThen]
theorem spec_PlayerOk.skip {P : Program} {ops : Array Oper} {a : Act} {Q : Exit → Act → World → Prop} {W : World} {md : Region.Mode} {S : World → Prop} {i : Nat} {oi : Oper} {fuel : Nat} {listed : Array Bool} (hi : Arl.nth ops.toList i = some oi)
  (hs : Region.noSelect ops = true) (hf : Region.free md ops listed i = true) (hr : (Region.ready md ops listed).contains i = true)
  (hQ : ∀ c a w, Q (.panic c) (a.put oi.dst undef) w → Q (.panic c) a w) (hw : Region.wanted oi (yielded ops a.tmps) = false) (hS : S W)
  (h : wpAnyH P md ops Q S fuel (listed.setIfInBounds i true) (a.put oi.dst undef) W) : wpAnyH P md ops Q S (fuel + 1) listed a W :=
 wpAnyH_take (Arl.nth_some hi) hs hf hr hQ (Or.inr ⟨hw, rfl⟩) hS h
theorem spec_PlayerOk.j0_true {k : Nat} {a b c d e : Int} {l : List S44} {r : Bool} (h : spec_PlayerOk.j0 k true a b c d e l = some r) : r = false := by
 cases k with
 | zero => simp [spec_PlayerOk.j0] at h
 | succ k => simp only [spec_PlayerOk.j0, if_true] at h; exact (Option.some.inj h).symm
set_option maxHeartbeats 8000000 in
set_option maxRecDepth 100000 in
theorem spec_PlayerOk.calls (k : Nat) (a0_0 : Int) (a0_1 : Int) (a0_2 : Int) (a0_3 : Int) (a0_4 : Int) (A0_5 : Option Addr) (c0_5 : Nat) (l0_5 : List (S44)) (r : Bool) (w : World) (hr0_5 : Kd.C k44 w A0_5 l0_5.length l0_5) (hc0_5 : l0_5.length ≤ c0_5) (h : spec_PlayerOk.f k a0_0 a0_1 a0_2 a0_3 a0_4 l0_5 = some r) :
  Calls Try.prog 18 #[.agg #[.int .i64 a0_0, .int .i64 a0_1, .int .i64 a0_2, .int .i64 a0_3, .int .i64 a0_4, .slice A0_5 l0_5.length c0_5]] w fun e w' => e = .returned (.bool r) ∧ Below w.heap.size w w' := by
 have hu35 := Try.underlying35; have hu44 := Try.underlying44; have HR := am_ hr0_5; clear hr0_5 hc0_5; have HB := am_ (Below.refl w.heap.size w); rw [spec_PlayerOk.f] at h; have H := h; clear h; obtain ⟨b0, A0, H⟩ := Option.bind_eq_some_iff.mp H
 have HQ0 := am_ (show ∀ W : World, Calls Try.prog 47 #[.int .i64 a0_0] W (fun e w' => e = .returned (.bool b0) ∧ Below W.heap.size W w') from fun W => (spec_l12Seq.calls a0_0 b0 W A0).mono (fun e w' hq => by obtain ⟨h1, nd, rfl⟩ := hq; exact ⟨h1, pw_below_drewN (Below.refl _ _) nd⟩))
 clear A0
 cases b0 with
 | false =>
  rw [if_neg (by decide)] at H
  obtain rfl := spec_PlayerOk.j0_true H; clear H
  go_enter Try.func18, Try.ntmps18
  go_wp2_with (first | ((with_reducible refine gate_dst (N := 1) rfl ?_); refine box_event ?hg (N := 1) ?hd (cs := #[.int .i64 a0_0, .int .i64 a0_1, .int .i64 a0_2, .int .i64 a0_3, .int .i64 a0_4, .slice A0_5 l0_5.length c0_5]) (t := 35) ?hr ?_; (case hd => rfl); (case hg => rfl); (case hr => first | (go_simp; done) | (go_simp; rfl)); intro gP hg_ w1 hbox_ hb_; have GP := am_ (show w.heap.size ≤ gP by rw [hg_]; exact Nat.le_refl _); have SP := am_ hbox_; have n_ := am_ (below_step HB.out hb_); clear HB; have HB := n_; clear n_ hg_ hbox_ hb_; have hp0 := cz_ SP.out 0 rfl; have hp1 := cz_ SP.out 1 rfl; have hp2 := cz_ SP.out 2 rfl; have hp3 := cz_ SP.out 3 rfl; have hp4 := cz_ SP.out 4 rfl; have hp5 := cz_ SP.out 5 rfl) | (go_at_call 47; (with_reducible refine (HQ0.out _).mono ?_); rintro e w10 ⟨rfl, hb_⟩; (try refine ⟨_, rfl, ?_⟩); clear hp0 hp1 hp2 hp3 hp4 hp5; have n0_ := am_ (blk_below SP.out hb_); have n_ := am_ (below_step HB.out hb_); clear SP HB; have SP := n0_; have HB := n_; clear n0_ n_ hb_; have hp0 := cz_ SP.out 0 rfl; have hp1 := cz_ SP.out 1 rfl; have hp2 := cz_ SP.out 2 rfl; have hp3 := cz_ SP.out 3 rfl; have hp4 := cz_ SP.out 4 rfl; have hp5 := cz_ SP.out 5 rfl))
  go_ret
  exact ⟨rfl, HB.out⟩
 | true =>
 rw [if_pos rfl] at H; obtain ⟨b1, A1, H⟩ := Option.bind_eq_some_iff.mp H
 have HQ1 := am_ (show ∀ W : World, Calls Try.prog 48 #[.int .i64 a0_1, .int .i64 1, .int .i64 12] W (fun e w' => e = .returned (.bool b1) ∧ Below W.heap.size W w') from fun W => (spec_l1In.calls a0_1 1 12 b1 W A1).mono (fun e w' hq => by obtain ⟨h1, nd, rfl⟩ := hq; exact ⟨h1, pw_below_drewN (Below.refl _ _) nd⟩))
 clear A1
 cases b1 with
 | false =>
  rw [if_neg (by decide)] at H
  obtain rfl := spec_PlayerOk.j0_true H; clear H
  go_enter Try.func18, Try.ntmps18
  go_wp2_with (first | ((with_reducible refine gate_dst (N := 1) rfl ?_); refine box_event ?hg (N := 1) ?hd (cs := #[.int .i64 a0_0, .int .i64 a0_1, .int .i64 a0_2, .int .i64 a0_3, .int .i64 a0_4, .slice A0_5 l0_5.length c0_5]) (t := 35) ?hr ?_; (case hd => rfl); (case hg => rfl); (case hr => first | (go_simp; done) | (go_simp; rfl)); intro gP hg_ w1 hbox_ hb_; have GP := am_ (show w.heap.size ≤ gP by rw [hg_]; exact Nat.le_refl _); have SP := am_ hbox_; have n_ := am_ (below_step HB.out hb_); clear HB; have HB := n_; clear n_ hg_ hbox_ hb_; have hp0 := cz_ SP.out 0 rfl; have hp1 := cz_ SP.out 1 rfl; have hp2 := cz_ SP.out 2 rfl; have hp3 := cz_ SP.out 3 rfl; have hp4 := cz_ SP.out 4 rfl; have hp5 := cz_ SP.out 5 rfl) | (go_at_call 47; (with_reducible refine (HQ0.out _).mono ?_); rintro e w10 ⟨rfl, hb_⟩; (try refine ⟨_, rfl, ?_⟩); clear hp0 hp1 hp2 hp3 hp4 hp5; have n0_ := am_ (blk_below SP.out hb_); have n_ := am_ (below_step HB.out hb_); clear SP HB; have SP := n0_; have HB := n_; clear n0_ n_ hb_; have hp0 := cz_ SP.out 0 rfl; have hp1 := cz_ SP.out 1 rfl; have hp2 := cz_ SP.out 2 rfl; have hp3 := cz_ SP.out 3 rfl; have hp4 := cz_ SP.out 4 rfl; have hp5 := cz_ SP.out 5 rfl) | (go_at_call 48; (with_reducible refine (HQ1.out _).mono ?_); rintro e w11 ⟨rfl, hb_⟩; (try refine ⟨_, rfl, ?_⟩); clear hp0 hp1 hp2 hp3 hp4 hp5; have n0_ := am_ (blk_below SP.out hb_); have n_ := am_ (below_step HB.out hb_); clear SP HB; have SP := n0_; have HB := n_; clear n0_ n_ hb_; have hp0 := cz_ SP.out 0 rfl; have hp1 := cz_ SP.out 1 rfl; have hp2 := cz_ SP.out 2 rfl; have hp3 := cz_ SP.out 3 rfl; have hp4 := cz_ SP.out 4 rfl; have hp5 := cz_ SP.out 5 rfl))
  go_ret
  exact ⟨rfl, HB.out⟩
 | true =>
 rw [if_pos rfl] at H; obtain ⟨b2, A2, H⟩ := Option.bind_eq_some_iff.mp H
 have HQ2 := am_ (show ∀ W : World, Calls Try.prog 49 #[.int .i64 a0_2] W (fun e w' => e = .returned (.bool b2) ∧ Below W.heap.size W w') from fun W => (spec_l4Tick.calls a0_2 b2 W A2).mono (fun e w' hq => by obtain ⟨h1, nd, rfl⟩ := hq; exact ⟨h1, pw_below_drewN (Below.refl _ _) nd⟩))
 clear A2
 cases b2 with
 | false =>
  rw [if_neg (by decide)] at H
  obtain rfl := spec_PlayerOk.j0_true H; clear H
  go_enter Try.func18, Try.ntmps18
  go_wp2_with (first | ((with_reducible refine gate_dst (N := 1) rfl ?_); refine box_event ?hg (N := 1) ?hd (cs := #[.int .i64 a0_0, .int .i64 a0_1, .int .i64 a0_2, .int .i64 a0_3, .int .i64 a0_4, .slice A0_5 l0_5.length c0_5]) (t := 35) ?hr ?_; (case hd => rfl); (case hg => rfl); (case hr => first | (go_simp; done) | (go_simp; rfl)); intro gP hg_ w1 hbox_ hb_; have GP := am_ (show w.heap.size ≤ gP by rw [hg_]; exact Nat.le_refl _); have SP := am_ hbox_; have n_ := am_ (below_step HB.out hb_); clear HB; have HB := n_; clear n_ hg_ hbox_ hb_; have hp0 := cz_ SP.out 0 rfl; have hp1 := cz_ SP.out 1 rfl; have hp2 := cz_ SP.out 2 rfl; have hp3 := cz_ SP.out 3 rfl; have hp4 := cz_ SP.out 4 rfl; have hp5 := cz_ SP.out 5 rfl) | (go_at_call 47; (with_reducible refine (HQ0.out _).mono ?_); rintro e w10 ⟨rfl, hb_⟩; (try refine ⟨_, rfl, ?_⟩); clear hp0 hp1 hp2 hp3 hp4 hp5; have n0_ := am_ (blk_below SP.out hb_); have n_ := am_ (below_step HB.out hb_); clear SP HB; have SP := n0_; have HB := n_; clear n0_ n_ hb_; have hp0 := cz_ SP.out 0 rfl; have hp1 := cz_ SP.out 1 rfl; have hp2 := cz_ SP.out 2 rfl; have hp3 := cz_ SP.out 3 rfl; have hp4 := cz_ SP.out 4 rfl; have hp5 := cz_ SP.out 5 rfl) | (go_at_call 48; (with_reducible refine (HQ1.out _).mono ?_); rintro e w11 ⟨rfl, hb_⟩; (try refine ⟨_, rfl, ?_⟩); clear hp0 hp1 hp2 hp3 hp4 hp5; have n0_ := am_ (blk_below SP.out hb_); have n_ := am_ (below_step HB.out hb_); clear SP HB; have SP := n0_; have HB := n_; clear n0_ n_ hb_; have hp0 := cz_ SP.out 0 rfl; have hp1 := cz_ SP.out 1 rfl; have hp2 := cz_ SP.out 2 rfl; have hp3 := cz_ SP.out 3 rfl; have hp4 := cz_ SP.out 4 rfl; have hp5 := cz_ SP.out 5 rfl) | (go_at_call 49; (with_reducible refine (HQ2.out _).mono ?_); rintro e w12 ⟨rfl, hb_⟩; (try refine ⟨_, rfl, ?_⟩); clear hp0 hp1 hp2 hp3 hp4 hp5; have n0_ := am_ (blk_below SP.out hb_); have n_ := am_ (below_step HB.out hb_); clear SP HB; have SP := n0_; have HB := n_; clear n0_ n_ hb_; have hp0 := cz_ SP.out 0 rfl; have hp1 := cz_ SP.out 1 rfl; have hp2 := cz_ SP.out 2 rfl; have hp3 := cz_ SP.out 3 rfl; have hp4 := cz_ SP.out 4 rfl; have hp5 := cz_ SP.out 5 rfl))
  go_ret
  exact ⟨rfl, HB.out⟩
 | true =>
 rw [if_pos rfl] at H; obtain ⟨b3, A3, H⟩ := Option.bind_eq_some_iff.mp H
 have HQ3 := am_ (show ∀ W : World, Calls Try.prog 49 #[.int .i64 a0_3] W (fun e w' => e = .returned (.bool b3) ∧ Below W.heap.size W w') from fun W => (spec_l4Tick.calls a0_3 b3 W A3).mono (fun e w' hq => by obtain ⟨h1, nd, rfl⟩ := hq; exact ⟨h1, pw_below_drewN (Below.refl _ _) nd⟩))
 clear A3
 cases b3 with
 | false =>
  rw [if_neg (by decide)] at H
  obtain rfl := spec_PlayerOk.j0_true H; clear H
  go_enter Try.func18, Try.ntmps18
  go_wp2_with (first | ((with_reducible refine gate_dst (N := 1) rfl ?_); refine box_event ?hg (N := 1) ?hd (cs := #[.int .i64 a0_0, .int .i64 a0_1, .int .i64 a0_2, .int .i64 a0_3, .int .i64 a0_4, .slice A0_5 l0_5.length c0_5]) (t := 35) ?hr ?_; (case hd => rfl); (case hg => rfl); (case hr => first | (go_simp; done) | (go_simp; rfl)); intro gP hg_ w1 hbox_ hb_; have GP := am_ (show w.heap.size ≤ gP by rw [hg_]; exact Nat.le_refl _); have SP := am_ hbox_; have n_ := am_ (below_step HB.out hb_); clear HB; have HB := n_; clear n_ hg_ hbox_ hb_; have hp0 := cz_ SP.out 0 rfl; have hp1 := cz_ SP.out 1 rfl; have hp2 := cz_ SP.out 2 rfl; have hp3 := cz_ SP.out 3 rfl; have hp4 := cz_ SP.out 4 rfl; have hp5 := cz_ SP.out 5 rfl) | (go_at_call 47; (with_reducible refine (HQ0.out _).mono ?_); rintro e w10 ⟨rfl, hb_⟩; (try refine ⟨_, rfl, ?_⟩); clear hp0 hp1 hp2 hp3 hp4 hp5; have n0_ := am_ (blk_below SP.out hb_); have n_ := am_ (below_step HB.out hb_); clear SP HB; have SP := n0_; have HB := n_; clear n0_ n_ hb_; have hp0 := cz_ SP.out 0 rfl; have hp1 := cz_ SP.out 1 rfl; have hp2 := cz_ SP.out 2 rfl; have hp3 := cz_ SP.out 3 rfl; have hp4 := cz_ SP.out 4 rfl; have hp5 := cz_ SP.out 5 rfl) | (go_at_call 48; (with_reducible refine (HQ1.out _).mono ?_); rintro e w11 ⟨rfl, hb_⟩; (try refine ⟨_, rfl, ?_⟩); clear hp0 hp1 hp2 hp3 hp4 hp5; have n0_ := am_ (blk_below SP.out hb_); have n_ := am_ (below_step HB.out hb_); clear SP HB; have SP := n0_; have HB := n_; clear n0_ n_ hb_; have hp0 := cz_ SP.out 0 rfl; have hp1 := cz_ SP.out 1 rfl; have hp2 := cz_ SP.out 2 rfl; have hp3 := cz_ SP.out 3 rfl; have hp4 := cz_ SP.out 4 rfl; have hp5 := cz_ SP.out 5 rfl) | (go_at_call 49; (with_reducible refine (HQ2.out _).mono ?_); rintro e w12 ⟨rfl, hb_⟩; (try refine ⟨_, rfl, ?_⟩); clear hp0 hp1 hp2 hp3 hp4 hp5; have n0_ := am_ (blk_below SP.out hb_); have n_ := am_ (below_step HB.out hb_); clear SP HB; have SP := n0_; have HB := n_; clear n0_ n_ hb_; have hp0 := cz_ SP.out 0 rfl; have hp1 := cz_ SP.out 1 rfl; have hp2 := cz_ SP.out 2 rfl; have hp3 := cz_ SP.out 3 rfl; have hp4 := cz_ SP.out 4 rfl; have hp5 := cz_ SP.out 5 rfl) | (go_at_call 49; (with_reducible refine (HQ3.out _).mono ?_); rintro e w13 ⟨rfl, hb_⟩; (try refine ⟨_, rfl, ?_⟩); clear hp0 hp1 hp2 hp3 hp4 hp5; have n0_ := am_ (blk_below SP.out hb_); have n_ := am_ (below_step HB.out hb_); clear SP HB; have SP := n0_; have HB := n_; clear n0_ n_ hb_; have hp0 := cz_ SP.out 0 rfl; have hp1 := cz_ SP.out 1 rfl; have hp2 := cz_ SP.out 2 rfl; have hp3 := cz_ SP.out 3 rfl; have hp4 := cz_ SP.out 4 rfl; have hp5 := cz_ SP.out 5 rfl))
  go_ret
  exact ⟨rfl, HB.out⟩
 | true =>
 rw [if_pos rfl] at H; obtain ⟨b4, A4, H⟩ := Option.bind_eq_some_iff.mp H
 have HQ4 := am_ (show ∀ W : World, Calls Try.prog 50 #[.int .i64 a0_4] W (fun e w' => e = .returned (.bool b4) ∧ Below W.heap.size W w') from fun W => (spec_l2Level.calls a0_4 b4 W A4).mono (fun e w' hq => by obtain ⟨h1, nd, rfl⟩ := hq; exact ⟨h1, pw_below_drewN (Below.refl _ _) nd⟩))
 clear A4
 cases b4 with
 | false =>
  obtain rfl := spec_PlayerOk.j0_true H; clear H
  go_enter Try.func18, Try.ntmps18
  go_wp2_with (first | ((with_reducible refine gate_dst (N := 1) rfl ?_); refine box_event ?hg (N := 1) ?hd (cs := #[.int .i64 a0_0, .int .i64 a0_1, .int .i64 a0_2, .int .i64 a0_3, .int .i64 a0_4, .slice A0_5 l0_5.length c0_5]) (t := 35) ?hr ?_; (case hd => rfl); (case hg => rfl); (case hr => first | (go_simp; done) | (go_simp; rfl)); intro gP hg_ w1 hbox_ hb_; have GP := am_ (show w.heap.size ≤ gP by rw [hg_]; exact Nat.le_refl _); have SP := am_ hbox_; have n_ := am_ (below_step HB.out hb_); clear HB; have HB := n_; clear n_ hg_ hbox_ hb_; have hp0 := cz_ SP.out 0 rfl; have hp1 := cz_ SP.out 1 rfl; have hp2 := cz_ SP.out 2 rfl; have hp3 := cz_ SP.out 3 rfl; have hp4 := cz_ SP.out 4 rfl; have hp5 := cz_ SP.out 5 rfl) | (go_at_call 47; (with_reducible refine (HQ0.out _).mono ?_); rintro e w10 ⟨rfl, hb_⟩; (try refine ⟨_, rfl, ?_⟩); clear hp0 hp1 hp2 hp3 hp4 hp5; have n0_ := am_ (blk_below SP.out hb_); have n_ := am_ (below_step HB.out hb_); clear SP HB; have SP := n0_; have HB := n_; clear n0_ n_ hb_; have hp0 := cz_ SP.out 0 rfl; have hp1 := cz_ SP.out 1 rfl; have hp2 := cz_ SP.out 2 rfl; have hp3 := cz_ SP.out 3 rfl; have hp4 := cz_ SP.out 4 rfl; have hp5 := cz_ SP.out 5 rfl) | (go_at_call 48; (with_reducible refine (HQ1.out _).mono ?_); rintro e w11 ⟨rfl, hb_⟩; (try refine ⟨_, rfl, ?_⟩); clear hp0 hp1 hp2 hp3 hp4 hp5; have n0_ := am_ (blk_below SP.out hb_); have n_ := am_ (below_step HB.out hb_); clear SP HB; have SP := n0_; have HB := n_; clear n0_ n_ hb_; have hp0 := cz_ SP.out 0 rfl; have hp1 := cz_ SP.out 1 rfl; have hp2 := cz_ SP.out 2 rfl; have hp3 := cz_ SP.out 3 rfl; have hp4 := cz_ SP.out 4 rfl; have hp5 := cz_ SP.out 5 rfl) | (go_at_call 49; (with_reducible refine (HQ2.out _).mono ?_); rintro e w12 ⟨rfl, hb_⟩; (try refine ⟨_, rfl, ?_⟩); clear hp0 hp1 hp2 hp3 hp4 hp5; have n0_ := am_ (blk_below SP.out hb_); have n_ := am_ (below_step HB.out hb_); clear SP HB; have SP := n0_; have HB := n_; clear n0_ n_ hb_; have hp0 := cz_ SP.out 0 rfl; have hp1 := cz_ SP.out 1 rfl; have hp2 := cz_ SP.out 2 rfl; have hp3 := cz_ SP.out 3 rfl; have hp4 := cz_ SP.out 4 rfl; have hp5 := cz_ SP.out 5 rfl) | (go_at_call 49; (with_reducible refine (HQ3.out _).mono ?_); rintro e w13 ⟨rfl, hb_⟩; (try refine ⟨_, rfl, ?_⟩); clear hp0 hp1 hp2 hp3 hp4 hp5; have n0_ := am_ (blk_below SP.out hb_); have n_ := am_ (below_step HB.out hb_); clear SP HB; have SP := n0_; have HB := n_; clear n0_ n_ hb_; have hp0 := cz_ SP.out 0 rfl; have hp1 := cz_ SP.out 1 rfl; have hp2 := cz_ SP.out 2 rfl; have hp3 := cz_ SP.out 3 rfl; have hp4 := cz_ SP.out 4 rfl; have hp5 := cz_ SP.out 5 rfl) | (go_at_call 50; (with_reducible refine (HQ4.out _).mono ?_); rintro e w14 ⟨rfl, hb_⟩; (try refine ⟨_, rfl, ?_⟩); clear hp0 hp1 hp2 hp3 hp4 hp5; have n0_ := am_ (blk_below SP.out hb_); have n_ := am_ (below_step HB.out hb_); clear SP HB; have SP := n0_; have HB := n_; clear n0_ n_ hb_; have hp0 := cz_ SP.out 0 rfl; have hp1 := cz_ SP.out 1 rfl; have hp2 := cz_ SP.out 2 rfl; have hp3 := cz_ SP.out 3 rfl; have hp4 := cz_ SP.out 4 rfl; have hp5 := cz_ SP.out 5 rfl))
  go_ret
  exact ⟨rfl, HB.out⟩
 | true =>
 replace H : spec_PlayerOk.j0 k false a0_0 a0_1 a0_2 a0_3 a0_4 l0_5 = some r := H
 cases k with
 | zero => simp [spec_PlayerOk.j0] at H
 | succ k =>
 simp only [spec_PlayerOk.j0, Bool.false_eq_true, if_false] at H
 have H' := am_ H
 clear H
 go_enter Try.func18, Try.ntmps18
 go_wp2_with (first | ((with_reducible refine gate_dst (N := 1) rfl ?_); refine box_event ?hg (N := 1) ?hd (cs := #[.int .i64 a0_0, .int .i64 a0_1, .int .i64 a0_2, .int .i64 a0_3, .int .i64 a0_4, .slice A0_5 l0_5.length c0_5]) (t := 35) ?hr ?_; (case hd => rfl); (case hg => rfl); (case hr => first | (go_simp; done) | (go_simp; rfl)); intro gP hg_ w1 hbox_ hb_; have GP := am_ (show w.heap.size ≤ gP by rw [hg_]; exact Nat.le_refl _); have SP := am_ hbox_; have n_ := am_ (below_step HB.out hb_); clear HB; have HB := n_; clear n_ hg_ hbox_ hb_; have hp0 := cz_ SP.out 0 rfl; have hp1 := cz_ SP.out 1 rfl; have hp2 := cz_ SP.out 2 rfl; have hp3 := cz_ SP.out 3 rfl; have hp4 := cz_ SP.out 4 rfl; have hp5 := cz_ SP.out 5 rfl) | (go_at_call 47; (with_reducible refine (HQ0.out _).mono ?_); rintro e w10 ⟨rfl, hb_⟩; (try refine ⟨_, rfl, ?_⟩); clear hp0 hp1 hp2 hp3 hp4 hp5; have n0_ := am_ (blk_below SP.out hb_); have n_ := am_ (below_step HB.out hb_); clear SP HB; have SP := n0_; have HB := n_; clear n0_ n_ hb_; have hp0 := cz_ SP.out 0 rfl; have hp1 := cz_ SP.out 1 rfl; have hp2 := cz_ SP.out 2 rfl; have hp3 := cz_ SP.out 3 rfl; have hp4 := cz_ SP.out 4 rfl; have hp5 := cz_ SP.out 5 rfl) | (go_at_call 48; (with_reducible refine (HQ1.out _).mono ?_); rintro e w11 ⟨rfl, hb_⟩; (try refine ⟨_, rfl, ?_⟩); clear hp0 hp1 hp2 hp3 hp4 hp5; have n0_ := am_ (blk_below SP.out hb_); have n_ := am_ (below_step HB.out hb_); clear SP HB; have SP := n0_; have HB := n_; clear n0_ n_ hb_; have hp0 := cz_ SP.out 0 rfl; have hp1 := cz_ SP.out 1 rfl; have hp2 := cz_ SP.out 2 rfl; have hp3 := cz_ SP.out 3 rfl; have hp4 := cz_ SP.out 4 rfl; have hp5 := cz_ SP.out 5 rfl) | (go_at_call 49; (with_reducible refine (HQ2.out _).mono ?_); rintro e w12 ⟨rfl, hb_⟩; (try refine ⟨_, rfl, ?_⟩); clear hp0 hp1 hp2 hp3 hp4 hp5; have n0_ := am_ (blk_below SP.out hb_); have n_ := am_ (below_step HB.out hb_); clear SP HB; have SP := n0_; have HB := n_; clear n0_ n_ hb_; have hp0 := cz_ SP.out 0 rfl; have hp1 := cz_ SP.out 1 rfl; have hp2 := cz_ SP.out 2 rfl; have hp3 := cz_ SP.out 3 rfl; have hp4 := cz_ SP.out 4 rfl; have hp5 := cz_ SP.out 5 rfl) | (go_at_call 49; (with_reducible refine (HQ3.out _).mono ?_); rintro e w13 ⟨rfl, hb_⟩; (try refine ⟨_, rfl, ?_⟩); clear hp0 hp1 hp2 hp3 hp4 hp5; have n0_ := am_ (blk_below SP.out hb_); have n_ := am_ (below_step HB.out hb_); clear SP HB; have SP := n0_; have HB := n_; clear n0_ n_ hb_; have hp0 := cz_ SP.out 0 rfl; have hp1 := cz_ SP.out 1 rfl; have hp2 := cz_ SP.out 2 rfl; have hp3 := cz_ SP.out 3 rfl; have hp4 := cz_ SP.out 4 rfl; have hp5 := cz_ SP.out 5 rfl) | (go_at_call 50; (with_reducible refine (HQ4.out _).mono ?_); rintro e w14 ⟨rfl, hb_⟩; (try refine ⟨_, rfl, ?_⟩); clear hp0 hp1 hp2 hp3 hp4 hp5; have n0_ := am_ (blk_below SP.out hb_); have n_ := am_ (below_step HB.out hb_); clear SP HB; have SP := n0_; have HB := n_; clear n0_ n_ hb_; have hp0 := cz_ SP.out 0 rfl; have hp1 := cz_ SP.out 1 rfl; have hp2 := cz_ SP.out 2 rfl; have hp3 := cz_ SP.out 3 rfl; have hp4 := cz_ SP.out 4 rfl; have hp5 := cz_ SP.out 5 rfl))
 clear hp0 hp1 hp2 hp3 hp4 hp5
 go_loopg [3] k (fun kq v_ w' => ∃ (x : Int), v_ = .int .i64 x ∧ Aside0 (spec_PlayerOk.l0 kq x a0_0 a0_1 a0_2 a0_3 a0_4 l0_5 = some r) ∧ Aside0 (kq ≤ k) ∧ Aside0 (w'.heap[gP]? = some (.cells #[.int .i64 a0_0, .int .i64 a0_1, .int .i64 a0_2, .int .i64 a0_3, .int .i64 a0_4, .slice A0_5 l0_5.length c0_5] 35 (0, 0))) ∧ Aside0 (Below w.heap.size w w'))
 case atStart => exact ⟨0, rfl, H', ⟨Nat.le_refl _⟩, SP, HB⟩
 case round =>
  clear H' SP HB
  skip
  obtain ⟨x, rfl, HA, HK, SP, HB⟩ := hrel; have hp0 := cz_ SP.out 0 rfl; have hp5 := cz_ SP.out 5 rfl
  cases gk with
  | zero => exact absurd HA.out (by simp [spec_PlayerOk.l0])
  | succ k1 =>
   have H := HA.out; clear HA; simp only [spec_PlayerOk.l0] at H
   by_cases c6 : x < (l0_5.length : Int)
   case neg =>
    rw [if_neg c6] at H; have c6b0 : decide (x < (l0_5.length : Int)) = false := decide_eq_false c6; clear c6; obtain rfl := Option.some.inj H; clear H
    go_wp2
    go_ret
    exact ⟨rfl, HB.out⟩

   rw [if_pos c6] at H; have c6b0 : decide (x < (l0_5.length : Int)) = true := decide_eq_true c6
   by_cases c7 : 0 ≤ x
   case neg => rw [if_neg c7] at H; cases H
   rw [if_pos c7] at H
   skip
   obtain ⟨tp, Ap, H⟩ := Option.bind_eq_some_iff.mp H; obtain ⟨ad0, cl, e142, hcn, hK_, hcc⟩ := Kd.C_get HR.out z44 x c7 c6
   cases e142
   have HCN := am_ (show cl.length = 18 from hcn)
   have HCC := am_ (show ∀ (j : Nat) (v : Value), cl[j]? = some v → w.cell? ((ad0.add (x.toNat * 18)).add j) = some v from fun j v hj => by rw [Addr.add_add]; exact hcc j v hj)
   have hcl : cl = [Value.int .i64 (rd_T44 l0_5 x).f0, Value.int .i64 (rd_T44 l0_5 x).f1, .int .u8 (rd_T44 l0_5 x).f2.f0, .int .u8 (rd_T44 l0_5 x).f2.f1, .int .u8 (rd_T44 l0_5 x).f2.f2, .int .u8 (rd_T44 l0_5 x).f2.f3, .int .u8 (rd_T44 l0_5 x).f2.f4, .int .u8 (rd_T44 l0_5 x).f2.f5, .int .u8 (rd_T44 l0_5 x).f2.f6, .int .u8 (rd_T44 l0_5 x).f2.f7, .int .u8 (rd_T44 l0_5 x).f2.f8, .int .u8 (rd_T44 l0_5 x).f2.f9, .int .u8 (rd_T44 l0_5 x).f2.f10, .int .u8 (rd_T44 l0_5 x).f2.f11, .int .u8 (rd_T44 l0_5 x).f2.f12, .int .u8 (rd_T44 l0_5 x).f2.f13, .int .u8 (rd_T44 l0_5 x).f2.f14, .int .u8 (rd_T44 l0_5 x).f2.f15] := k44_open hK_
   have HPK := am_ (show ∀ W : World, Calls Try.prog 51 #[.agg cl.toArray] W (fun e w' => e = .returned (.bool tp) ∧ Below W.heap.size W w') from fun W => by rw [hcl]; exact (spec_l12Packet.calls (rd_T44 l0_5 x).f0 (rd_T44 l0_5 x).f1 (rd_T44 l0_5 x).f2.f0 (rd_T44 l0_5 x).f2.f1 (rd_T44 l0_5 x).f2.f2 (rd_T44 l0_5 x).f2.f3 (rd_T44 l0_5 x).f2.f4 (rd_T44 l0_5 x).f2.f5 (rd_T44 l0_5 x).f2.f6 (rd_T44 l0_5 x).f2.f7 (rd_T44 l0_5 x).f2.f8 (rd_T44 l0_5 x).f2.f9 (rd_T44 l0_5 x).f2.f10 (rd_T44 l0_5 x).f2.f11 (rd_T44 l0_5 x).f2.f12 (rd_T44 l0_5 x).f2.f13 (rd_T44 l0_5 x).f2.f14 (rd_T44 l0_5 x).f2.f15 tp W Ap))
   have HK1 := am_ (show cl.toArray[1]? = some (.int .i64 (rd_T44 l0_5 x).f1) by rw [hcl]; rfl)
   have HC1 := am_ (show cl.toArray.all (·.oneCell') = true by rw [hcl]; simp [Value.oneCell'])
   have HCZ := am_ (show cl.toArray.size = 18 by rw [List.size_toArray]; exact hcn)
   clear hcl hcn hK_ hcc Ap; have p6 := eq_true c6; have p7 := eq_true c7; clear c6 c7; have HH := am_ H; clear H
   go_upto_region 7 with (first | ((with_reducible refine gate_dst (N := 44) rfl ?_); refine Arl.load_list (cl := cl) rfl rfl rfl rfl (fun j v hj => (show Below w.heap.size w _ from HB.out).cell (World.block_lt_of_cell? w _ (HCC.out j v hj)) |>.trans (HCC.out j v hj)) hu44 rfl (by rw [HCN.out]; kernel_rfl) ?_) | ((with_reducible refine gate_dst (N := 4) rfl ?_); refine box_event ?hg (N := 4) ?hd (cs := #[.int .i64 0, .int .i64 0, .int .u8 0, .int .u8 0, .int .u8 0, .int .u8 0, .int .u8 0, .int .u8 0, .int .u8 0, .int .u8 0, .int .u8 0, .int .u8 0, .int .u8 0, .int .u8 0, .int .u8 0, .int .u8 0, .int .u8 0, .int .u8 0]) (t := 44) ?hr ?_; (case hd => rfl); (case hg => rfl); (case hr => first | (go_simp; done) | (go_simp; rfl)); intro gK hg_ w2 hbox_ hb_; have GK := am_ (show w.heap.size ≤ gK by rw [hg_]; exact below_size HB.out); have NPK := am_ (show gP ≠ gK by rw [hg_]; exact Nat.ne_of_lt (blk_lt SP.out)); have SK := am_ hbox_; have n0_ := am_ (blk_below SP.out hb_); have n_ := am_ (below_step HB.out hb_); clear SP HB; have SP := n0_; have HB := n_; clear n0_ n_ hg_ hbox_ hb_) | ((with_reducible refine gate_store (t := 44) (p := 4) rfl ?_); refine Arr.store_all (T := 44) (p := 4) (g := gK) (old := #[.int .i64 0, .int .i64 0, .int .u8 0, .int .u8 0, .int .u8 0, .int .u8 0, .int .u8 0, .int .u8 0, .int .u8 0, .int .u8 0, .int .u8 0, .int .u8 0, .int .u8 0, .int .u8 0, .int .u8 0, .int .u8 0, .int .u8 0, .int .u8 0]) (cs := cl.toArray) (t := 44) rfl rfl rfl rfl rfl SK.out (by rw [HCZ.out]; kernel_rfl) (by rw [HCZ.out]; first | done | rfl) HC1.out ?_; intro w3 hs_ hk_ hB_; have n0_ := am_ ((hk_ _ NPK.out).trans SP.out); have n_ := am_ (hB_ _ _ HB.out GK.out); clear SK SP HB; have SK := am_ hs_; have SP := n0_; have HB := n_; clear n0_ n_ hs_ hk_ hB_))
   clear hp0 hp5; obtain ⟨wq, hwq⟩ : ∃ wq, wq = w3 := ⟨_, rfl⟩; have H := HH.out; clear HH; have S0 : (w3.drew.heap[gK]? = some (.cells cl.toArray 44 (0, 0)) ∧ w3.drew.heap[gP]? = some (.cells #[.int .i64 a0_0, .int .i64 a0_1, .int .i64 a0_2, .int .i64 a0_3, .int .i64 a0_4, .slice (some ad0) l0_5.length c0_5] 35 (0, 0)) ∧ Below w.heap.size w w3.drew) := ⟨blk_drew SK.out, blk_drew SP.out, below_drew1 HB.out⟩
   cases tp with
   | false =>
    rw [if_neg (by decide)] at H
    obtain rfl := Option.some.inj H; clear H
    refine wp_region_held_drew (S := fun w' => w'.heap[gK]? = some (.cells cl.toArray 44 (0, 0)) ∧ w'.heap[gP]? = some (.cells #[.int .i64 a0_0, .int .i64 a0_1, .int .i64 a0_2, .int .i64 a0_3, .int .i64 a0_4, .slice (some ad0) l0_5.length c0_5] 35 (0, 0)) ∧ Below w.heap.size w w') rfl S0 (fun HS => ?_)
    refine Arl.take (i := 0) (v := .agg cl.toArray) rfl (by kernel_rfl) (by kernel_rfl) (by kernel_rfl) (fun _ _ _ h => h) (by rfl) (fun W hW => spec_PlayerOk.load_run rfl rfl hW.1 hu44 rfl (by rw [HCZ.out]; kernel_rfl)) HS ?_
    simp only [Act.put, List.setIfInBounds_toArray, List.set_cons_zero, List.set_cons_succ]
    refine wpAnyH_ready (rs := [1]) (by kernel_rfl) (by simp) ?_
    refine AllReadyH.cons (o := _) (Arl.nth_some rfl) (fun K hK => ?_) AllReadyH.nil
    go_simp
    go_at_call 51
    with_reducible refine (HPK.out _).mono ?_
    rintro e w31 ⟨rfl, hb⟩
    (try refine ⟨_, rfl, ?_⟩)
    have HS1 := (show _ ∧ _ ∧ _ from ⟨blk_below HS.1 hb, blk_below HS.2.1 hb, below_step HS.2.2 hb⟩); replace HS := HS1; clear HS1 hb
    refine hK.out _ _ HS (fun HS => ?_)
    clear hK
    refine Arl.take (i := 2) (v := ?_) rfl (by kernel_rfl) (by kernel_rfl) (by kernel_rfl) (fun _ _ _ h => h) (by rfl) ?_ HS ?_
    rotate_left
    ·(intro w0 hS0; have hk1 := (blk_cell hS0.1 1).trans HK1.out; have hp0 := cz_ hS0.2.1 0 rfl; have hp5 := cz_ hS0.2.1 5 rfl; go_simp; try (with_reducible rfl))
    simp only [Act.put, List.setIfInBounds_toArray, List.set_cons_zero, List.set_cons_succ]
    refine Arl.take (i := 3) (v := ?_) rfl (by kernel_rfl) (by kernel_rfl) (by kernel_rfl) (fun _ _ _ h => h) (by rfl) ?_ HS ?_
    rotate_left
    ·(intro w0 hS0; have hk1 := (blk_cell hS0.1 1).trans HK1.out; have hp0 := cz_ hS0.2.1 0 rfl; have hp5 := cz_ hS0.2.1 5 rfl; go_simp; try (with_reducible rfl))
    simp only [Act.put, List.setIfInBounds_toArray, List.set_cons_zero, List.set_cons_succ]
    refine spec_PlayerOk.skip (i := 4) rfl (by kernel_rfl) (by kernel_rfl) (by kernel_rfl) (fun _ _ _ h => h) (by rfl) HS ?_
    simp only [Act.put, List.setIfInBounds_toArray, List.set_cons_zero, List.set_cons_succ]
    refine spec_PlayerOk.skip (i := 5) rfl (by kernel_rfl) (by kernel_rfl) (by kernel_rfl) (fun _ _ _ h => h) (by rfl) HS ?_
    simp only [Act.put, List.setIfInBounds_toArray, List.set_cons_zero, List.set_cons_succ]
    refine spec_PlayerOk.skip (i := 6) rfl (by kernel_rfl) (by kernel_rfl) (by kernel_rfl) (fun _ _ _ h => h) (by rfl) HS ?_
    simp only [Act.put, List.setIfInBounds_toArray, List.set_cons_zero, List.set_cons_succ]
    refine spec_PlayerOk.skip (i := 7) rfl (by kernel_rfl) (by kernel_rfl) (by kernel_rfl) (fun _ _ _ h => h) (by rfl) HS ?_
    simp only [Act.put, List.setIfInBounds_toArray, List.set_cons_zero, List.set_cons_succ]
    refine spec_PlayerOk.skip (i := 8) rfl (by kernel_rfl) (by kernel_rfl) (by kernel_rfl) (fun _ _ _ h => h) (by rfl) HS ?_
    simp only [Act.put, List.setIfInBounds_toArray, List.set_cons_zero, List.set_cons_succ]
    refine spec_PlayerOk.skip (i := 9) rfl (by kernel_rfl) (by kernel_rfl) (by kernel_rfl) (fun _ _ _ h => h) (by rfl) HS ?_
    simp only [Act.put, List.setIfInBounds_toArray, List.set_cons_zero, List.set_cons_succ]
    refine spec_PlayerOk.skip (i := 10) rfl (by kernel_rfl) (by kernel_rfl) (by kernel_rfl) (fun _ _ _ h => h) (by rfl) HS ?_
    simp only [Act.put, List.setIfInBounds_toArray, List.set_cons_zero, List.set_cons_succ]
    refine spec_PlayerOk.skip (i := 11) rfl (by kernel_rfl) (by kernel_rfl) (by kernel_rfl) (fun _ _ _ h => h) (by rfl) HS ?_
    simp only [Act.put, List.setIfInBounds_toArray, List.set_cons_zero, List.set_cons_succ]
    refine spec_PlayerOk.skip (i := 12) rfl (by kernel_rfl) (by kernel_rfl) (by kernel_rfl) (fun _ _ _ h => h) (by rfl) HS ?_
    simp only [Act.put, List.setIfInBounds_toArray, List.set_cons_zero, List.set_cons_succ]
    refine spec_PlayerOk.skip (i := 13) rfl (by kernel_rfl) (by kernel_rfl) (by kernel_rfl) (fun _ _ _ h => h) (by rfl) HS ?_
    simp only [Act.put, List.setIfInBounds_toArray, List.set_cons_zero, List.set_cons_succ]
    refine Arl.take (i := 14) (v := ?_) rfl (by kernel_rfl) (by kernel_rfl) (by kernel_rfl) (fun _ _ _ h => h) (by rfl) ?_ HS ?_
    rotate_left
    ·(intro w0 hS0; have hk1 := (blk_cell hS0.1 1).trans HK1.out; have hp0 := cz_ hS0.2.1 0 rfl; have hp5 := cz_ hS0.2.1 5 rfl; go_simp; try (with_reducible rfl))
    simp only [Act.put, List.setIfInBounds_toArray, List.set_cons_zero, List.set_cons_succ]
    refine Arl.take (i := 15) (v := ?_) rfl (by kernel_rfl) (by kernel_rfl) (by kernel_rfl) (fun _ _ _ h => h) (by rfl) ?_ HS ?_
    rotate_left
    ·(intro w0 hS0; have hk1 := (blk_cell hS0.1 1).trans HK1.out; have hp0 := cz_ hS0.2.1 0 rfl; have hp5 := cz_ hS0.2.1 5 rfl; go_simp; try (with_reducible rfl))
    simp only [Act.put, List.setIfInBounds_toArray, List.set_cons_zero, List.set_cons_succ]
    refine spec_PlayerOk.skip (i := 16) rfl (by kernel_rfl) (by kernel_rfl) (by kernel_rfl) (fun _ _ _ h => h) (by rfl) HS ?_
    simp only [Act.put, List.setIfInBounds_toArray, List.set_cons_zero, List.set_cons_succ]
    refine spec_PlayerOk.skip (i := 17) rfl (by kernel_rfl) (by kernel_rfl) (by kernel_rfl) (fun _ _ _ h => h) (by rfl) HS ?_
    simp only [Act.put, List.setIfInBounds_toArray, List.set_cons_zero, List.set_cons_succ]
    refine spec_PlayerOk.skip (i := 18) rfl (by kernel_rfl) (by kernel_rfl) (by kernel_rfl) (fun _ _ _ h => h) (by rfl) HS ?_
    simp only [Act.put, List.setIfInBounds_toArray, List.set_cons_zero, List.set_cons_succ]
    refine spec_PlayerOk.skip (i := 19) rfl (by kernel_rfl) (by kernel_rfl) (by kernel_rfl) (fun _ _ _ h => h) (by rfl) HS ?_
    simp only [Act.put, List.setIfInBounds_toArray, List.set_cons_zero, List.set_cons_succ]
    refine spec_PlayerOk.skip (i := 20) rfl (by kernel_rfl) (by kernel_rfl) (by kernel_rfl) (fun _ _ _ h => h) (by rfl) HS ?_
    simp only [Act.put, List.setIfInBounds_toArray, List.set_cons_zero, List.set_cons_succ]
    refine spec_PlayerOk.skip (i := 21) rfl (by kernel_rfl) (by kernel_rfl) (by kernel_rfl) (fun _ _ _ h => h) (by rfl) HS ?_
    simp only [Act.put, List.setIfInBounds_toArray, List.set_cons_zero, List.set_cons_succ]
    refine spec_PlayerOk.skip (i := 22) rfl (by kernel_rfl) (by kernel_rfl) (by kernel_rfl) (fun _ _ _ h => h) (by rfl) HS ?_
    simp only [Act.put, List.setIfInBounds_toArray, List.set_cons_zero, List.set_cons_succ]
    refine spec_PlayerOk.skip (i := 23) rfl (by kernel_rfl) (by kernel_rfl) (by kernel_rfl) (fun _ _ _ h => h) (by rfl) HS ?_
    simp only [Act.put, List.setIfInBounds_toArray, List.set_cons_zero, List.set_cons_succ]
    refine spec_PlayerOk.skip (i := 24) rfl (by kernel_rfl) (by kernel_rfl) (by kernel_rfl) (fun _ _ _ h => h) (by rfl) HS ?_
    simp only [Act.put, List.setIfInBounds_toArray, List.set_cons_zero, List.set_cons_succ]
    refine spec_PlayerOk.skip (i := 25) rfl (by kernel_rfl) (by kernel_rfl) (by kernel_rfl) (fun _ _ _ h => h) (by rfl) HS ?_
    simp only [Act.put, List.setIfInBounds_toArray, List.set_cons_zero, List.set_cons_succ]
    refine spec_PlayerOk.skip (i := 26) rfl (by kernel_rfl) (by kernel_rfl) (by kernel_rfl) (fun _ _ _ h => h) (by rfl) HS ?_
    simp only [Act.put, List.setIfInBounds_toArray, List.set_cons_zero, List.set_cons_succ]
    refine spec_PlayerOk.skip (i := 27) rfl (by kernel_rfl) (by kernel_rfl) (by kernel_rfl) (fun _ _ _ h => h) (by rfl) HS ?_
    simp only [Act.put, List.setIfInBounds_toArray, List.set_cons_zero, List.set_cons_succ]
    refine spec_PlayerOk.skip (i := 28) rfl (by kernel_rfl) (by kernel_rfl) (by kernel_rfl) (fun _ _ _ h => h) (by rfl) HS ?_
    simp only [Act.put, List.setIfInBounds_toArray, List.set_cons_zero, List.set_cons_succ]
    refine spec_PlayerOk.skip (i := 29) rfl (by kernel_rfl) (by kernel_rfl) (by kernel_rfl) (fun _ _ _ h => h) (by rfl) HS ?_
    simp only [Act.put, List.setIfInBounds_toArray, List.set_cons_zero, List.set_cons_succ]
    refine Arl.take (i := 30) (v := ?_) rfl (by kernel_rfl) (by kernel_rfl) (by kernel_rfl) (fun _ _ _ h => h) (by rfl) ?_ HS ?_
    rotate_left
    ·(intro w0 hS0; have hk1 := (blk_cell hS0.1 1).trans HK1.out; have hp0 := cz_ hS0.2.1 0 rfl; have hp5 := cz_ hS0.2.1 5 rfl; go_simp; try (with_reducible rfl))
    simp only [Act.put, List.setIfInBounds_toArray, List.set_cons_zero, List.set_cons_succ]
    refine wpAnyH_done (by kernel_rfl) ?_ _
    go_wp2
    go_ret
    exact ⟨rfl, HS.2.2⟩
   | true =>
   rw [if_pos rfl] at H; obtain ⟨ti, Ai, H⟩ := Option.bind_eq_some_iff.mp H
   have HIN := am_ (show ∀ W : World, Calls Try.prog 48 #[.int .i64 (rd_T44 l0_5 x).f1, .int .i64 a0_0, .int .i64 (IntKind.i64.wrap (IntKind.i64.wrap (a0_0 + 12) - 1))] W (fun e w' => e = .returned (.bool ti) ∧ Below W.heap.size W w') from fun W => by
    rw [i64_w, i64_w]
    exact (spec_l1In.calls _ _ _ ti W Ai).mono (fun e w' hq => by obtain ⟨h1, nd, rfl⟩ := hq; exact ⟨h1, pw_below_drewN (Below.refl _ _) nd⟩))
   clear Ai
   cases ti with
   | false =>
    rw [if_neg (by decide)] at H
    obtain rfl := Option.some.inj H; clear H
    refine wp_region_held_drew (S := fun w' => w'.heap[gK]? = some (.cells cl.toArray 44 (0, 0)) ∧ w'.heap[gP]? = some (.cells #[.int .i64 a0_0, .int .i64 a0_1, .int .i64 a0_2, .int .i64 a0_3, .int .i64 a0_4, .slice (some ad0) l0_5.length c0_5] 35 (0, 0)) ∧ Below w.heap.size w w') rfl S0 (fun HS => ?_)
    refine Arl.take (i := 0) (v := .agg cl.toArray) rfl (by kernel_rfl) (by kernel_rfl) (by kernel_rfl) (fun _ _ _ h => h) (by rfl) (fun W hW => spec_PlayerOk.load_run rfl rfl hW.1 hu44 rfl (by rw [HCZ.out]; kernel_rfl)) HS ?_
    simp only [Act.put, List.setIfInBounds_toArray, List.set_cons_zero, List.set_cons_succ]
    refine wpAnyH_ready (rs := [1]) (by kernel_rfl) (by simp) ?_
    refine AllReadyH.cons (o := _) (Arl.nth_some rfl) (fun K hK => ?_) AllReadyH.nil
    go_simp
    go_at_call 51
    with_reducible refine (HPK.out _).mono ?_
    rintro e w31 ⟨rfl, hb⟩
    (try refine ⟨_, rfl, ?_⟩)
    have HS1 := (show _ ∧ _ ∧ _ from ⟨blk_below HS.1 hb, blk_below HS.2.1 hb, below_step HS.2.2 hb⟩); replace HS := HS1; clear HS1 hb
    refine hK.out _ _ HS (fun HS => ?_)
    clear hK
    refine Arl.take (i := 2) (v := ?_) rfl (by kernel_rfl) (by kernel_rfl) (by kernel_rfl) (fun _ _ _ h => h) (by rfl) ?_ HS ?_
    rotate_left
    ·(intro w0 hS0; have hk1 := (blk_cell hS0.1 1).trans HK1.out; have hp0 := cz_ hS0.2.1 0 rfl; have hp5 := cz_ hS0.2.1 5 rfl; go_simp; try (with_reducible rfl))
    simp only [Act.put, List.setIfInBounds_toArray, List.set_cons_zero, List.set_cons_succ]
    refine Arl.take (i := 3) (v := ?_) rfl (by kernel_rfl) (by kernel_rfl) (by kernel_rfl) (fun _ _ _ h => h) (by rfl) ?_ HS ?_
    rotate_left
    ·(intro w0 hS0; have hk1 := (blk_cell hS0.1 1).trans HK1.out; have hp0 := cz_ hS0.2.1 0 rfl; have hp5 := cz_ hS0.2.1 5 rfl; go_simp; try (with_reducible rfl))
    simp only [Act.put, List.setIfInBounds_toArray, List.set_cons_zero, List.set_cons_succ]
    refine Arl.take (i := 4) (v := ?_) rfl (by kernel_rfl) (by kernel_rfl) (by kernel_rfl) (fun _ _ _ h => h) (by rfl) ?_ HS ?_
    rotate_left
    ·(intro w0 hS0; have hk1 := (blk_cell hS0.1 1).trans HK1.out; have hp0 := cz_ hS0.2.1 0 rfl; have hp5 := cz_ hS0.2.1 5 rfl; go_simp; try (with_reducible rfl))
    simp only [Act.put, List.setIfInBounds_toArray, List.set_cons_zero, List.set_cons_succ]
    refine Arl.take (i := 5) (v := ?_) rfl (by kernel_rfl) (by kernel_rfl) (by kernel_rfl) (fun _ _ _ h => h) (by rfl) ?_ HS ?_
    rotate_left
    ·(intro w0 hS0; have hk1 := (blk_cell hS0.1 1).trans HK1.out; have hp0 := cz_ hS0.2.1 0 rfl; have hp5 := cz_ hS0.2.1 5 rfl; go_simp; try (with_reducible rfl))
    simp only [Act.put, List.setIfInBounds_toArray, List.set_cons_zero, List.set_cons_succ]
    refine Arl.take (i := 6) (v := ?_) rfl (by kernel_rfl) (by kernel_rfl) (by kernel_rfl) (fun _ _ _ h => h) (by rfl) ?_ HS ?_
    rotate_left
    ·(intro w0 hS0; have hk1 := (blk_cell hS0.1 1).trans HK1.out; have hp0 := cz_ hS0.2.1 0 rfl; have hp5 := cz_ hS0.2.1 5 rfl; go_simp; try (with_reducible rfl))
    simp only [Act.put, List.setIfInBounds_toArray, List.set_cons_zero, List.set_cons_succ]
    refine Arl.take (i := 7) (v := ?_) rfl (by kernel_rfl) (by kernel_rfl) (by kernel_rfl) (fun _ _ _ h => h) (by rfl) ?_ HS ?_
    rotate_left
    ·(intro w0 hS0; have hk1 := (blk_cell hS0.1 1).trans HK1.out; have hp0 := cz_ hS0.2.1 0 rfl; have hp5 := cz_ hS0.2.1 5 rfl; go_simp; try (with_reducible rfl))
    simp only [Act.put, List.setIfInBounds_toArray, List.set_cons_zero, List.set_cons_succ]
    refine Arl.take (i := 8) (v := ?_) rfl (by kernel_rfl) (by kernel_rfl) (by kernel_rfl) (fun _ _ _ h => h) (by rfl) ?_ HS ?_
    rotate_left
    ·(intro w0 hS0; have hk1 := (blk_cell hS0.1 1).trans HK1.out; have hp0 := cz_ hS0.2.1 0 rfl; have hp5 := cz_ hS0.2.1 5 rfl; go_simp; try (with_reducible rfl))
    simp only [Act.put, List.setIfInBounds_toArray, List.set_cons_zero, List.set_cons_succ]
    refine Arl.take (i := 9) (v := ?_) rfl (by kernel_rfl) (by kernel_rfl) (by kernel_rfl) (fun _ _ _ h => h) (by rfl) ?_ HS ?_
    rotate_left
    ·(intro w0 hS0; have hk1 := (blk_cell hS0.1 1).trans HK1.out; have hp0 := cz_ hS0.2.1 0 rfl; have hp5 := cz_ hS0.2.1 5 rfl; go_simp; try (with_reducible rfl))
    simp only [Act.put, List.setIfInBounds_toArray, List.set_cons_zero, List.set_cons_succ]
    refine Arl.take (i := 10) (v := ?_) rfl (by kernel_rfl) (by kernel_rfl) (by kernel_rfl) (fun _ _ _ h => h) (by rfl) ?_ HS ?_
    rotate_left
    ·(intro w0 hS0; have hk1 := (blk_cell hS0.1 1).trans HK1.out; have hp0 := cz_ hS0.2.1 0 rfl; have hp5 := cz_ hS0.2.1 5 rfl; go_simp; try (with_reducible rfl))
    simp only [Act.put, List.setIfInBounds_toArray, List.set_cons_zero, List.set_cons_succ]
    refine Arl.take (i := 11) (v := ?_) rfl (by kernel_rfl) (by kernel_rfl) (by kernel_rfl) (fun _ _ _ h => h) (by rfl) ?_ HS ?_
    rotate_left
    ·(intro w0 hS0; have hk1 := (blk_cell hS0.1 1).trans HK1.out; have hp0 := cz_ hS0.2.1 0 rfl; have hp5 := cz_ hS0.2.1 5 rfl; go_simp; try (with_reducible rfl))
    simp only [Act.put, List.setIfInBounds_toArray, List.set_cons_zero, List.set_cons_succ]
    refine wpAnyH_ready (rs := [12]) (by kernel_rfl) (by simp) ?_
    refine AllReadyH.cons (o := _) (Arl.nth_some rfl) (fun K hK => ?_) AllReadyH.nil
    go_simp
    go_at_call 48
    with_reducible refine (HIN.out _).mono ?_
    rintro e w42 ⟨rfl, hb⟩
    (try refine ⟨_, rfl, ?_⟩)
    have HS1 := (show _ ∧ _ ∧ _ from ⟨blk_below HS.1 hb, blk_below HS.2.1 hb, below_step HS.2.2 hb⟩); replace HS := HS1; clear HS1 hb
    refine hK.out _ _ HS (fun HS => ?_)
    clear hK
    refine Arl.take (i := 13) (v := ?_) rfl (by kernel_rfl) (by kernel_rfl) (by kernel_rfl) (fun _ _ _ h => h) (by rfl) ?_ HS ?_
    rotate_left
    ·(intro w0 hS0; have hk1 := (blk_cell hS0.1 1).trans HK1.out; have hp0 := cz_ hS0.2.1 0 rfl; have hp5 := cz_ hS0.2.1 5 rfl; go_simp; try (with_reducible rfl))
    simp only [Act.put, List.setIfInBounds_toArray, List.set_cons_zero, List.set_cons_succ]
    refine Arl.take (i := 14) (v := ?_) rfl (by kernel_rfl) (by kernel_rfl) (by kernel_rfl) (fun _ _ _ h => h) (by rfl) ?_ HS ?_
    rotate_left
    ·(intro w0 hS0; have hk1 := (blk_cell hS0.1 1).trans HK1.out; have hp0 := cz_ hS0.2.1 0 rfl; have hp5 := cz_ hS0.2.1 5 rfl; go_simp; try (with_reducible rfl))
    simp only [Act.put, List.setIfInBounds_toArray, List.set_cons_zero, List.set_cons_succ]
    refine Arl.take (i := 15) (v := ?_) rfl (by kernel_rfl) (by kernel_rfl) (by kernel_rfl) (fun _ _ _ h => h) (by rfl) ?_ HS ?_
    rotate_left
    ·(intro w0 hS0; have hk1 := (blk_cell hS0.1 1).trans HK1.out; have hp0 := cz_ hS0.2.1 0 rfl; have hp5 := cz_ hS0.2.1 5 rfl; go_simp; try (with_reducible rfl))
    simp only [Act.put, List.setIfInBounds_toArray, List.set_cons_zero, List.set_cons_succ]
    refine spec_PlayerOk.skip (i := 16) rfl (by kernel_rfl) (by kernel_rfl) (by kernel_rfl) (fun _ _ _ h => h) (by rfl) HS ?_
    simp only [Act.put, List.setIfInBounds_toArray, List.set_cons_zero, List.set_cons_succ]
    refine spec_PlayerOk.skip (i := 17) rfl (by kernel_rfl) (by kernel_rfl) (by kernel_rfl) (fun _ _ _ h => h) (by rfl) HS ?_
    simp only [Act.put, List.setIfInBounds_toArray, List.set_cons_zero, List.set_cons_succ]
    refine spec_PlayerOk.skip (i := 18) rfl (by kernel_rfl) (by kernel_rfl) (by kernel_rfl) (fun _ _ _ h => h) (by rfl) HS ?_
    simp only [Act.put, List.setIfInBounds_toArray, List.set_cons_zero, List.set_cons_succ]
    refine spec_PlayerOk.skip (i := 19) rfl (by kernel_rfl) (by kernel_rfl) (by kernel_rfl) (fun _ _ _ h => h) (by rfl) HS ?_
    simp only [Act.put, List.setIfInBounds_toArray, List.set_cons_zero, List.set_cons_succ]
    refine spec_PlayerOk.skip (i := 20) rfl (by kernel_rfl) (by kernel_rfl) (by kernel_rfl) (fun _ _ _ h => h) (by rfl) HS ?_
    simp only [Act.put, List.setIfInBounds_toArray, List.set_cons_zero, List.set_cons_succ]
    refine spec_PlayerOk.skip (i := 21) rfl (by kernel_rfl) (by kernel_rfl) (by kernel_rfl) (fun _ _ _ h => h) (by rfl) HS ?_
    simp only [Act.put, List.setIfInBounds_toArray, List.set_cons_zero, List.set_cons_succ]
    refine spec_PlayerOk.skip (i := 22) rfl (by kernel_rfl) (by kernel_rfl) (by kernel_rfl) (fun _ _ _ h => h) (by rfl) HS ?_
    simp only [Act.put, List.setIfInBounds_toArray, List.set_cons_zero, List.set_cons_succ]
    refine spec_PlayerOk.skip (i := 23) rfl (by kernel_rfl) (by kernel_rfl) (by kernel_rfl) (fun _ _ _ h => h) (by rfl) HS ?_
    simp only [Act.put, List.setIfInBounds_toArray, List.set_cons_zero, List.set_cons_succ]
    refine spec_PlayerOk.skip (i := 24) rfl (by kernel_rfl) (by kernel_rfl) (by kernel_rfl) (fun _ _ _ h => h) (by rfl) HS ?_
    simp only [Act.put, List.setIfInBounds_toArray, List.set_cons_zero, List.set_cons_succ]
    refine spec_PlayerOk.skip (i := 25) rfl (by kernel_rfl) (by kernel_rfl) (by kernel_rfl) (fun _ _ _ h => h) (by rfl) HS ?_
    simp only [Act.put, List.setIfInBounds_toArray, List.set_cons_zero, List.set_cons_succ]
    refine spec_PlayerOk.skip (i := 26) rfl (by kernel_rfl) (by kernel_rfl) (by kernel_rfl) (fun _ _ _ h => h) (by rfl) HS ?_
    simp only [Act.put, List.setIfInBounds_toArray, List.set_cons_zero, List.set_cons_succ]
    refine spec_PlayerOk.skip (i := 27) rfl (by kernel_rfl) (by kernel_rfl) (by kernel_rfl) (fun _ _ _ h => h) (by rfl) HS ?_
    simp only [Act.put, List.setIfInBounds_toArray, List.set_cons_zero, List.set_cons_succ]
    refine spec_PlayerOk.skip (i := 28) rfl (by kernel_rfl) (by kernel_rfl) (by kernel_rfl) (fun _ _ _ h => h) (by rfl) HS ?_
    simp only [Act.put, List.setIfInBounds_toArray, List.set_cons_zero, List.set_cons_succ]
    refine spec_PlayerOk.skip (i := 29) rfl (by kernel_rfl) (by kernel_rfl) (by kernel_rfl) (fun _ _ _ h => h) (by rfl) HS ?_
    simp only [Act.put, List.setIfInBounds_toArray, List.set_cons_zero, List.set_cons_succ]
    refine Arl.take (i := 30) (v := ?_) rfl (by kernel_rfl) (by kernel_rfl) (by kernel_rfl) (fun _ _ _ h => h) (by rfl) ?_ HS ?_
    rotate_left
    ·(intro w0 hS0; have hk1 := (blk_cell hS0.1 1).trans HK1.out; have hp0 := cz_ hS0.2.1 0 rfl; have hp5 := cz_ hS0.2.1 5 rfl; go_simp; try (with_reducible rfl))
    simp only [Act.put, List.setIfInBounds_toArray, List.set_cons_zero, List.set_cons_succ]
    refine wpAnyH_done (by kernel_rfl) ?_ _
    go_wp2
    go_ret
    exact ⟨rfl, HS.2.2⟩
   | true =>
   rw [if_pos rfl] at H
   by_cases c8 : x > 0
   case neg =>
    rw [if_neg c8] at H; have c8a : decide (x > 0) = false := decide_eq_false c8; have c8b : decide (0 < x) = false := decide_eq_false c8
    have H' := am_ H
    clear H c8
    refine wp_region_held_drew (S := fun w' => w'.heap[gK]? = some (.cells cl.toArray 44 (0, 0)) ∧ w'.heap[gP]? = some (.cells #[.int .i64 a0_0, .int .i64 a0_1, .int .i64 a0_2, .int .i64 a0_3, .int .i64 a0_4, .slice (some ad0) l0_5.length c0_5] 35 (0, 0)) ∧ Below w.heap.size w w') rfl S0 (fun HS => ?_)
    refine Arl.take (i := 0) (v := .agg cl.toArray) rfl (by kernel_rfl) (by kernel_rfl) (by kernel_rfl) (fun _ _ _ h => h) (by rfl) (fun W hW => spec_PlayerOk.load_run rfl rfl hW.1 hu44 rfl (by rw [HCZ.out]; kernel_rfl)) HS ?_
    simp only [Act.put, List.setIfInBounds_toArray, List.set_cons_zero, List.set_cons_succ]
    refine wpAnyH_ready (rs := [1]) (by kernel_rfl) (by simp) ?_
    refine AllReadyH.cons (o := _) (Arl.nth_some rfl) (fun K hK => ?_) AllReadyH.nil
    go_simp
    go_at_call 51
    with_reducible refine (HPK.out _).mono ?_
    rintro e w31 ⟨rfl, hb⟩
    (try refine ⟨_, rfl, ?_⟩)
    have HS1 := (show _ ∧ _ ∧ _ from ⟨blk_below HS.1 hb, blk_below HS.2.1 hb, below_step HS.2.2 hb⟩); replace HS := HS1; clear HS1 hb
    refine hK.out _ _ HS (fun HS => ?_)
    clear hK
    refine Arl.take (i := 2) (v := ?_) rfl (by kernel_rfl) (by kernel_rfl) (by kernel_rfl) (fun _ _ _ h => h) (by rfl) ?_ HS ?_
    rotate_left
    ·(intro w0 hS0; have hk1 := (blk_cell hS0.1 1).trans HK1.out; have hp0 := cz_ hS0.2.1 0 rfl; have hp5 := cz_ hS0.2.1 5 rfl; go_simp; try (with_reducible rfl))
    simp only [Act.put, List.setIfInBounds_toArray, List.set_cons_zero, List.set_cons_succ]
    refine Arl.take (i := 3) (v := ?_) rfl (by kernel_rfl) (by kernel_rfl) (by kernel_rfl) (fun _ _ _ h => h) (by rfl) ?_ HS ?_
    rotate_left
    ·(intro w0 hS0; have hk1 := (blk_cell hS0.1 1).trans HK1.out; have hp0 := cz_ hS0.2.1 0 rfl; have hp5 := cz_ hS0.2.1 5 rfl; go_simp; try (with_reducible rfl))
    simp only [Act.put, List.setIfInBounds_toArray, List.set_cons_zero, List.set_cons_succ]
    refine Arl.take (i := 4) (v := ?_) rfl (by kernel_rfl) (by kernel_rfl) (by kernel_rfl) (fun _ _ _ h => h) (by rfl) ?_ HS ?_
    rotate_left
    ·(intro w0 hS0; have hk1 := (blk_cell hS0.1 1).trans HK1.out; have hp0 := cz_ hS0.2.1 0 rfl; have hp5 := cz_ hS0.2.1 5 rfl; go_simp; try (with_reducible rfl))
    simp only [Act.put, List.setIfInBounds_toArray, List.set_cons_zero, List.set_cons_succ]
    refine Arl.take (i := 5) (v := ?_) rfl (by kernel_rfl) (by kernel_rfl) (by kernel_rfl) (fun _ _ _ h => h) (by rfl) ?_ HS ?_
    rotate_left
    ·(intro w0 hS0; have hk1 := (blk_cell hS0.1 1).trans HK1.out; have hp0 := cz_ hS0.2.1 0 rfl; have hp5 := cz_ hS0.2.1 5 rfl; go_simp; try (with_reducible rfl))
    simp only [Act.put, List.setIfInBounds_toArray, List.set_cons_zero, List.set_cons_succ]
    refine Arl.take (i := 6) (v := ?_) rfl (by kernel_rfl) (by kernel_rfl) (by kernel_rfl) (fun _ _ _ h => h) (by rfl) ?_ HS ?_
    rotate_left
    ·(intro w0 hS0; have hk1 := (blk_cell hS0.1 1).trans HK1.out; have hp0 := cz_ hS0.2.1 0 rfl; have hp5 := cz_ hS0.2.1 5 rfl; go_simp; try (with_reducible rfl))
    simp only [Act.put, List.setIfInBounds_toArray, List.set_cons_zero, List.set_cons_succ]
    refine Arl.take (i := 7) (v := ?_) rfl (by kernel_rfl) (by kernel_rfl) (by kernel_rfl) (fun _ _ _ h => h) (by rfl) ?_ HS ?_
    rotate_left
    ·(intro w0 hS0; have hk1 := (blk_cell hS0.1 1).trans HK1.out; have hp0 := cz_ hS0.2.1 0 rfl; have hp5 := cz_ hS0.2.1 5 rfl; go_simp; try (with_reducible rfl))
    simp only [Act.put, List.setIfInBounds_toArray, List.set_cons_zero, List.set_cons_succ]
    refine Arl.take (i := 8) (v := ?_) rfl (by kernel_rfl) (by kernel_rfl) (by kernel_rfl) (fun _ _ _ h => h) (by rfl) ?_ HS ?_
    rotate_left
    ·(intro w0 hS0; have hk1 := (blk_cell hS0.1 1).trans HK1.out; have hp0 := cz_ hS0.2.1 0 rfl; have hp5 := cz_ hS0.2.1 5 rfl; go_simp; try (with_reducible rfl))
    simp only [Act.put, List.setIfInBounds_toArray, List.set_cons_zero, List.set_cons_succ]
    refine Arl.take (i := 9) (v := ?_) rfl (by kernel_rfl) (by kernel_rfl) (by kernel_rfl) (fun _ _ _ h => h) (by rfl) ?_ HS ?_
    rotate_left
    ·(intro w0 hS0; have hk1 := (blk_cell hS0.1 1).trans HK1.out; have hp0 := cz_ hS0.2.1 0 rfl; have hp5 := cz_ hS0.2.1 5 rfl; go_simp; try (with_reducible rfl))
    simp only [Act.put, List.setIfInBounds_toArray, List.set_cons_zero, List.set_cons_succ]
    refine Arl.take (i := 10) (v := ?_) rfl (by kernel_rfl) (by kernel_rfl) (by kernel_rfl) (fun _ _ _ h => h) (by rfl) ?_ HS ?_
    rotate_left
    ·(intro w0 hS0; have hk1 := (blk_cell hS0.1 1).trans HK1.out; have hp0 := cz_ hS0.2.1 0 rfl; have hp5 := cz_ hS0.2.1 5 rfl; go_simp; try (with_reducible rfl))
    simp only [Act.put, List.setIfInBounds_toArray, List.set_cons_zero, List.set_cons_succ]
    refine Arl.take (i := 11) (v := ?_) rfl (by kernel_rfl) (by kernel_rfl) (by kernel_rfl) (fun _ _ _ h => h) (by rfl) ?_ HS ?_
    rotate_left
    ·(intro w0 hS0; have hk1 := (blk_cell hS0.1 1).trans HK1.out; have hp0 := cz_ hS0.2.1 0 rfl; have hp5 := cz_ hS0.2.1 5 rfl; go_simp; try (with_reducible rfl))
    simp only [Act.put, List.setIfInBounds_toArray, List.set_cons_zero, List.set_cons_succ]
    refine wpAnyH_ready (rs := [12]) (by kernel_rfl) (by simp) ?_
    refine AllReadyH.cons (o := _) (Arl.nth_some rfl) (fun K hK => ?_) AllReadyH.nil
    go_simp
    go_at_call 48
    with_reducible refine (HIN.out _).mono ?_
    rintro e w42 ⟨rfl, hb⟩
    (try refine ⟨_, rfl, ?_⟩)
    have HS1 := (show _ ∧ _ ∧ _ from ⟨blk_below HS.1 hb, blk_below HS.2.1 hb, below_step HS.2.2 hb⟩); replace HS := HS1; clear HS1 hb
    refine hK.out _ _ HS (fun HS => ?_)
    clear hK
    refine Arl.take (i := 13) (v := ?_) rfl (by kernel_rfl) (by kernel_rfl) (by kernel_rfl) (fun _ _ _ h => h) (by rfl) ?_ HS ?_
    rotate_left
    ·(intro w0 hS0; have hk1 := (blk_cell hS0.1 1).trans HK1.out; have hp0 := cz_ hS0.2.1 0 rfl; have hp5 := cz_ hS0.2.1 5 rfl; go_simp; try (with_reducible rfl))
    simp only [Act.put, List.setIfInBounds_toArray, List.set_cons_zero, List.set_cons_succ]
    refine Arl.take (i := 14) (v := ?_) rfl (by kernel_rfl) (by kernel_rfl) (by kernel_rfl) (fun _ _ _ h => h) (by rfl) ?_ HS ?_
    rotate_left
    ·(intro w0 hS0; have hk1 := (blk_cell hS0.1 1).trans HK1.out; have hp0 := cz_ hS0.2.1 0 rfl; have hp5 := cz_ hS0.2.1 5 rfl; go_simp; try (with_reducible rfl))
    simp only [Act.put, List.setIfInBounds_toArray, List.set_cons_zero, List.set_cons_succ]
    refine Arl.take (i := 15) (v := ?_) rfl (by kernel_rfl) (by kernel_rfl) (by kernel_rfl) (fun _ _ _ h => h) (by rfl) ?_ HS ?_
    rotate_left
    ·(intro w0 hS0; have hk1 := (blk_cell hS0.1 1).trans HK1.out; have hp0 := cz_ hS0.2.1 0 rfl; have hp5 := cz_ hS0.2.1 5 rfl; go_simp; try (with_reducible rfl))
    simp only [Act.put, List.setIfInBounds_toArray, List.set_cons_zero, List.set_cons_succ]
    refine Arl.take (i := 16) (v := ?_) rfl (by kernel_rfl) (by kernel_rfl) (by kernel_rfl) (fun _ _ _ h => h) (by rfl) ?_ HS ?_
    rotate_left
    ·(intro w0 hS0; have hk1 := (blk_cell hS0.1 1).trans HK1.out; have hp0 := cz_ hS0.2.1 0 rfl; have hp5 := cz_ hS0.2.1 5 rfl; go_simp; try (with_reducible rfl))
    simp only [Act.put, List.setIfInBounds_toArray, List.set_cons_zero, List.set_cons_succ]
    refine Arl.take (i := 17) (v := ?_) rfl (by kernel_rfl) (by kernel_rfl) (by kernel_rfl) (fun _ _ _ h => h) (by rfl) ?_ HS ?_
    rotate_left
    ·(intro w0 hS0; have hk1 := (blk_cell hS0.1 1).trans HK1.out; have hp0 := cz_ hS0.2.1 0 rfl; have hp5 := cz_ hS0.2.1 5 rfl; go_simp; try (with_reducible rfl))
    simp only [Act.put, List.setIfInBounds_toArray, List.set_cons_zero, List.set_cons_succ]
    refine Arl.take (i := 18) (v := ?_) rfl (by kernel_rfl) (by kernel_rfl) (by kernel_rfl) (fun _ _ _ h => h) (by rfl) ?_ HS ?_
    rotate_left
    ·(intro w0 hS0; have hk1 := (blk_cell hS0.1 1).trans HK1.out; have hp0 := cz_ hS0.2.1 0 rfl; have hp5 := cz_ hS0.2.1 5 rfl; go_simp; try (with_reducible rfl))
    simp only [Act.put, List.setIfInBounds_toArray, List.set_cons_zero, List.set_cons_succ]
    refine spec_PlayerOk.skip (i := 19) rfl (by kernel_rfl) (by kernel_rfl) (by kernel_rfl) (fun _ _ _ h => h) (by rfl) HS ?_
    simp only [Act.put, List.setIfInBounds_toArray, List.set_cons_zero, List.set_cons_succ]
    refine spec_PlayerOk.skip (i := 20) rfl (by kernel_rfl) (by kernel_rfl) (by kernel_rfl) (fun _ _ _ h => h) (by rfl) HS ?_
    simp only [Act.put, List.setIfInBounds_toArray, List.set_cons_zero, List.set_cons_succ]
    refine spec_PlayerOk.skip (i := 21) rfl (by kernel_rfl) (by kernel_rfl) (by kernel_rfl) (fun _ _ _ h => h) (by rfl) HS ?_
    simp only [Act.put, List.setIfInBounds_toArray, List.set_cons_zero, List.set_cons_succ]
    refine spec_PlayerOk.skip (i := 22) rfl (by kernel_rfl) (by kernel_rfl) (by kernel_rfl) (fun _ _ _ h => h) (by rfl) HS ?_
    simp only [Act.put, List.setIfInBounds_toArray, List.set_cons_zero, List.set_cons_succ]
    refine spec_PlayerOk.skip (i := 23) rfl (by kernel_rfl) (by kernel_rfl) (by kernel_rfl) (fun _ _ _ h => h) (by rfl) HS ?_
    simp only [Act.put, List.setIfInBounds_toArray, List.set_cons_zero, List.set_cons_succ]
    refine spec_PlayerOk.skip (i := 24) rfl (by kernel_rfl) (by kernel_rfl) (by kernel_rfl) (fun _ _ _ h => h) (by rfl) HS ?_
    simp only [Act.put, List.setIfInBounds_toArray, List.set_cons_zero, List.set_cons_succ]
    refine spec_PlayerOk.skip (i := 25) rfl (by kernel_rfl) (by kernel_rfl) (by kernel_rfl) (fun _ _ _ h => h) (by rfl) HS ?_
    simp only [Act.put, List.setIfInBounds_toArray, List.set_cons_zero, List.set_cons_succ]
    refine spec_PlayerOk.skip (i := 26) rfl (by kernel_rfl) (by kernel_rfl) (by kernel_rfl) (fun _ _ _ h => h) (by rfl) HS ?_
    simp only [Act.put, List.setIfInBounds_toArray, List.set_cons_zero, List.set_cons_succ]
    refine spec_PlayerOk.skip (i := 27) rfl (by kernel_rfl) (by kernel_rfl) (by kernel_rfl) (fun _ _ _ h => h) (by rfl) HS ?_
    simp only [Act.put, List.setIfInBounds_toArray, List.set_cons_zero, List.set_cons_succ]
    refine spec_PlayerOk.skip (i := 28) rfl (by kernel_rfl) (by kernel_rfl) (by kernel_rfl) (fun _ _ _ h => h) (by rfl) HS ?_
    simp only [Act.put, List.setIfInBounds_toArray, List.set_cons_zero, List.set_cons_succ]
    refine Arl.take (i := 29) (v := ?_) rfl (by kernel_rfl) (by kernel_rfl) (by kernel_rfl) (fun _ _ _ h => h) (by rfl) ?_ HS ?_
    rotate_left
    ·(intro w0 hS0; have hk1 := (blk_cell hS0.1 1).trans HK1.out; have hp0 := cz_ hS0.2.1 0 rfl; have hp5 := cz_ hS0.2.1 5 rfl; go_simp; try (with_reducible rfl))
    simp only [Act.put, List.setIfInBounds_toArray, List.set_cons_zero, List.set_cons_succ]
    refine Arl.take (i := 30) (v := ?_) rfl (by kernel_rfl) (by kernel_rfl) (by kernel_rfl) (fun _ _ _ h => h) (by rfl) ?_ HS ?_
    rotate_left
    ·(intro w0 hS0; have hk1 := (blk_cell hS0.1 1).trans HK1.out; have hp0 := cz_ hS0.2.1 0 rfl; have hp5 := cz_ hS0.2.1 5 rfl; go_simp; try (with_reducible rfl))
    simp only [Act.put, List.setIfInBounds_toArray, List.set_cons_zero, List.set_cons_succ]
    refine wpAnyH_done (by kernel_rfl) ?_ _
    go_wp2
    go_roundg k1
    case measure => have := HK.out; omega
    case rel => exact ⟨wrap64 (x + 1), rfl, H', ⟨by have := HK.out; omega⟩, ⟨HS.2.1⟩, ⟨HS.2.2⟩⟩
   rw [if_pos c8] at H; have c8a : decide (x > 0) = true := decide_eq_true c8; have c8b : decide (0 < x) = true := decide_eq_true c8; clear c8; rw [show wrap64 (x - 1) = IntKind.i64.wrap (x - 1) from (i64_w _).symm] at H
   by_cases d1 : 0 ≤ IntKind.i64.wrap (x - 1)
   case neg => rw [if_neg d1] at H; cases H
   rw [if_pos d1] at H
   by_cases d2 : IntKind.i64.wrap (x - 1) < (l0_5.length : Int)
   case neg => rw [if_neg d2] at H; cases H
   rw [if_pos d2] at H; obtain ⟨ad1, e1, _, hx, _⟩ := at_T44 HR.out (IntKind.i64.wrap (x - 1)) d1 d2
   cases e1
   have HX := am_ hx; clear hx; have p8 := eq_true d1; have p9 := eq_true d2; clear d1 d2
   generalize hs1 : (rd_T44 l0_5 (IntKind.i64.wrap (x - 1))).f1 = s1 at H HX
   clear hs1
   generalize hs2 : (rd_T44 l0_5 x).f1 = s2 at H HK1 HIN
   clear hs2
   by_cases c9 : s1 ≥ s2
   case pos =>
    rw [if_pos c9] at H; obtain rfl := Option.some.inj H; have c9a : decide (s1 ≥ s2) = true := decide_eq_true c9; have c9b : decide (s2 ≤ s1) = true := decide_eq_true c9; clear H c9
    refine wp_region_held_drew (S := fun w' => w'.heap[gK]? = some (.cells cl.toArray 44 (0, 0)) ∧ w'.heap[gP]? = some (.cells #[.int .i64 a0_0, .int .i64 a0_1, .int .i64 a0_2, .int .i64 a0_3, .int .i64 a0_4, .slice (some ad0) l0_5.length c0_5] 35 (0, 0)) ∧ Below w.heap.size w w') rfl S0 (fun HS => ?_)
    refine Arl.take (i := 0) (v := .agg cl.toArray) rfl (by kernel_rfl) (by kernel_rfl) (by kernel_rfl) (fun _ _ _ h => h) (by rfl) (fun W hW => spec_PlayerOk.load_run rfl rfl hW.1 hu44 rfl (by rw [HCZ.out]; kernel_rfl)) HS ?_
    simp only [Act.put, List.setIfInBounds_toArray, List.set_cons_zero, List.set_cons_succ]
    refine wpAnyH_ready (rs := [1]) (by kernel_rfl) (by simp) ?_
    refine AllReadyH.cons (o := _) (Arl.nth_some rfl) (fun K hK => ?_) AllReadyH.nil
    go_simp
    go_at_call 51
    with_reducible refine (HPK.out _).mono ?_
    rintro e w31 ⟨rfl, hb⟩
    (try refine ⟨_, rfl, ?_⟩)
    have HS1 := (show _ ∧ _ ∧ _ from ⟨blk_below HS.1 hb, blk_below HS.2.1 hb, below_step HS.2.2 hb⟩); replace HS := HS1; clear HS1 hb
    refine hK.out _ _ HS (fun HS => ?_)
    clear hK
    refine Arl.take (i := 2) (v := ?_) rfl (by kernel_rfl) (by kernel_rfl) (by kernel_rfl) (fun _ _ _ h => h) (by rfl) ?_ HS ?_
    rotate_left
    ·(intro w0 hS0; have hk1 := (blk_cell hS0.1 1).trans HK1.out; have hp0 := cz_ hS0.2.1 0 rfl; have hp5 := cz_ hS0.2.1 5 rfl; have hx0 := (hS0.2.2.cell (World.block_lt_of_cell? _ _ HX.out)).trans HX.out; go_simp; try (with_reducible rfl))
    simp only [Act.put, List.setIfInBounds_toArray, List.set_cons_zero, List.set_cons_succ]
    refine Arl.take (i := 3) (v := ?_) rfl (by kernel_rfl) (by kernel_rfl) (by kernel_rfl) (fun _ _ _ h => h) (by rfl) ?_ HS ?_
    rotate_left
    ·(intro w0 hS0; have hk1 := (blk_cell hS0.1 1).trans HK1.out; have hp0 := cz_ hS0.2.1 0 rfl; have hp5 := cz_ hS0.2.1 5 rfl; have hx0 := (hS0.2.2.cell (World.block_lt_of_cell? _ _ HX.out)).trans HX.out; go_simp; try (with_reducible rfl))
    simp only [Act.put, List.setIfInBounds_toArray, List.set_cons_zero, List.set_cons_succ]
    refine Arl.take (i := 4) (v := ?_) rfl (by kernel_rfl) (by kernel_rfl) (by kernel_rfl) (fun _ _ _ h => h) (by rfl) ?_ HS ?_
    rotate_left
    ·(intro w0 hS0; have hk1 := (blk_cell hS0.1 1).trans HK1.out; have hp0 := cz_ hS0.2.1 0 rfl; have hp5 := cz_ hS0.2.1 5 rfl; have hx0 := (hS0.2.2.cell (World.block_lt_of_cell? _ _ HX.out)).trans HX.out; go_simp; try (with_reducible rfl))
    simp only [Act.put, List.setIfInBounds_toArray, List.set_cons_zero, List.set_cons_succ]
    refine Arl.take (i := 5) (v := ?_) rfl (by kernel_rfl) (by kernel_rfl) (by kernel_rfl) (fun _ _ _ h => h) (by rfl) ?_ HS ?_
    rotate_left
    ·(intro w0 hS0; have hk1 := (blk_cell hS0.1 1).trans HK1.out; have hp0 := cz_ hS0.2.1 0 rfl; have hp5 := cz_ hS0.2.1 5 rfl; have hx0 := (hS0.2.2.cell (World.block_lt_of_cell? _ _ HX.out)).trans HX.out; go_simp; try (with_reducible rfl))
    simp only [Act.put, List.setIfInBounds_toArray, List.set_cons_zero, List.set_cons_succ]
    refine Arl.take (i := 6) (v := ?_) rfl (by kernel_rfl) (by kernel_rfl) (by kernel_rfl) (fun _ _ _ h => h) (by rfl) ?_ HS ?_
    rotate_left
    ·(intro w0 hS0; have hk1 := (blk_cell hS0.1 1).trans HK1.out; have hp0 := cz_ hS0.2.1 0 rfl; have hp5 := cz_ hS0.2.1 5 rfl; have hx0 := (hS0.2.2.cell (World.block_lt_of_cell? _ _ HX.out)).trans HX.out; go_simp; try (with_reducible rfl))
    simp only [Act.put, List.setIfInBounds_toArray, List.set_cons_zero, List.set_cons_succ]
    refine Arl.take (i := 7) (v := ?_) rfl (by kernel_rfl) (by kernel_rfl) (by kernel_rfl) (fun _ _ _ h => h) (by rfl) ?_ HS ?_
    rotate_left
    ·(intro w0 hS0; have hk1 := (blk_cell hS0.1 1).trans HK1.out; have hp0 := cz_ hS0.2.1 0 rfl; have hp5 := cz_ hS0.2.1 5 rfl; have hx0 := (hS0.2.2.cell (World.block_lt_of_cell? _ _ HX.out)).trans HX.out; go_simp; try (with_reducible rfl))
    simp only [Act.put, List.setIfInBounds_toArray, List.set_cons_zero, List.set_cons_succ]
    refine Arl.take (i := 8) (v := ?_) rfl (by kernel_rfl) (by kernel_rfl) (by kernel_rfl) (fun _ _ _ h => h) (by rfl) ?_ HS ?_
    rotate_left
    ·(intro w0 hS0; have hk1 := (blk_cell hS0.1 1).trans HK1.out; have hp0 := cz_ hS0.2.1 0 rfl; have hp5 := cz_ hS0.2.1 5 rfl; have hx0 := (hS0.2.2.cell (World.block_lt_of_cell? _ _ HX.out)).trans HX.out; go_simp; try (with_reducible rfl))
    simp only [Act.put, List.setIfInBounds_toArray, List.set_cons_zero, List.set_cons_succ]
    refine Arl.take (i := 9) (v := ?_) rfl (by kernel_rfl) (by kernel_rfl) (by kernel_rfl) (fun _ _ _ h => h) (by rfl) ?_ HS ?_
    rotate_left
    ·(intro w0 hS0; have hk1 := (blk_cell hS0.1 1).trans HK1.out; have hp0 := cz_ hS0.2.1 0 rfl; have hp5 := cz_ hS0.2.1 5 rfl; have hx0 := (hS0.2.2.cell (World.block_lt_of_cell? _ _ HX.out)).trans HX.out; go_simp; try (with_reducible rfl))
    simp only [Act.put, List.setIfInBounds_toArray, List.set_cons_zero, List.set_cons_succ]
    refine Arl.take (i := 10) (v := ?_) rfl (by kernel_rfl) (by kernel_rfl) (by kernel_rfl) (fun _ _ _ h => h) (by rfl) ?_ HS ?_
    rotate_left
    ·(intro w0 hS0; have hk1 := (blk_cell hS0.1 1).trans HK1.out; have hp0 := cz_ hS0.2.1 0 rfl; have hp5 := cz_ hS0.2.1 5 rfl; have hx0 := (hS0.2.2.cell (World.block_lt_of_cell? _ _ HX.out)).trans HX.out; go_simp; try (with_reducible rfl))
    simp only [Act.put, List.setIfInBounds_toArray, List.set_cons_zero, List.set_cons_succ]
    refine Arl.take (i := 11) (v := ?_) rfl (by kernel_rfl) (by kernel_rfl) (by kernel_rfl) (fun _ _ _ h => h) (by rfl) ?_ HS ?_
    rotate_left
    ·(intro w0 hS0; have hk1 := (blk_cell hS0.1 1).trans HK1.out; have hp0 := cz_ hS0.2.1 0 rfl; have hp5 := cz_ hS0.2.1 5 rfl; have hx0 := (hS0.2.2.cell (World.block_lt_of_cell? _ _ HX.out)).trans HX.out; go_simp; try (with_reducible rfl))
    simp only [Act.put, List.setIfInBounds_toArray, List.set_cons_zero, List.set_cons_succ]
    refine wpAnyH_ready (rs := [12]) (by kernel_rfl) (by simp) ?_
    refine AllReadyH.cons (o := _) (Arl.nth_some rfl) (fun K hK => ?_) AllReadyH.nil
    go_simp
    go_at_call 48
    with_reducible refine (HIN.out _).mono ?_
    rintro e w42 ⟨rfl, hb⟩
    (try refine ⟨_, rfl, ?_⟩)
    have HS1 := (show _ ∧ _ ∧ _ from ⟨blk_below HS.1 hb, blk_below HS.2.1 hb, below_step HS.2.2 hb⟩); replace HS := HS1; clear HS1 hb
    refine hK.out _ _ HS (fun HS => ?_)
    clear hK
    refine Arl.take (i := 13) (v := ?_) rfl (by kernel_rfl) (by kernel_rfl) (by kernel_rfl) (fun _ _ _ h => h) (by rfl) ?_ HS ?_
    rotate_left
    ·(intro w0 hS0; have hk1 := (blk_cell hS0.1 1).trans HK1.out; have hp0 := cz_ hS0.2.1 0 rfl; have hp5 := cz_ hS0.2.1 5 rfl; have hx0 := (hS0.2.2.cell (World.block_lt_of_cell? _ _ HX.out)).trans HX.out; go_simp; try (with_reducible rfl))
    simp only [Act.put, List.setIfInBounds_toArray, List.set_cons_zero, List.set_cons_succ]
    refine Arl.take (i := 14) (v := ?_) rfl (by kernel_rfl) (by kernel_rfl) (by kernel_rfl) (fun _ _ _ h => h) (by rfl) ?_ HS ?_
    rotate_left
    ·(intro w0 hS0; have hk1 := (blk_cell hS0.1 1).trans HK1.out; have hp0 := cz_ hS0.2.1 0 rfl; have hp5 := cz_ hS0.2.1 5 rfl; have hx0 := (hS0.2.2.cell (World.block_lt_of_cell? _ _ HX.out)).trans HX.out; go_simp; try (with_reducible rfl))
    simp only [Act.put, List.setIfInBounds_toArray, List.set_cons_zero, List.set_cons_succ]
    refine Arl.take (i := 15) (v := ?_) rfl (by kernel_rfl) (by kernel_rfl) (by kernel_rfl) (fun _ _ _ h => h) (by rfl) ?_ HS ?_
    rotate_left
    ·(intro w0 hS0; have hk1 := (blk_cell hS0.1 1).trans HK1.out; have hp0 := cz_ hS0.2.1 0 rfl; have hp5 := cz_ hS0.2.1 5 rfl; have hx0 := (hS0.2.2.cell (World.block_lt_of_cell? _ _ HX.out)).trans HX.out; go_simp; try (with_reducible rfl))
    simp only [Act.put, List.setIfInBounds_toArray, List.set_cons_zero, List.set_cons_succ]
    refine Arl.take (i := 16) (v := ?_) rfl (by kernel_rfl) (by kernel_rfl) (by kernel_rfl) (fun _ _ _ h => h) (by rfl) ?_ HS ?_
    rotate_left
    ·(intro w0 hS0; have hk1 := (blk_cell hS0.1 1).trans HK1.out; have hp0 := cz_ hS0.2.1 0 rfl; have hp5 := cz_ hS0.2.1 5 rfl; have hx0 := (hS0.2.2.cell (World.block_lt_of_cell? _ _ HX.out)).trans HX.out; go_simp; try (with_reducible rfl))
    simp only [Act.put, List.setIfInBounds_toArray, List.set_cons_zero, List.set_cons_succ]
    refine Arl.take (i := 17) (v := ?_) rfl (by kernel_rfl) (by kernel_rfl) (by kernel_rfl) (fun _ _ _ h => h) (by rfl) ?_ HS ?_
    rotate_left
    ·(intro w0 hS0; have hk1 := (blk_cell hS0.1 1).trans HK1.out; have hp0 := cz_ hS0.2.1 0 rfl; have hp5 := cz_ hS0.2.1 5 rfl; have hx0 := (hS0.2.2.cell (World.block_lt_of_cell? _ _ HX.out)).trans HX.out; go_simp; try (with_reducible rfl))
    simp only [Act.put, List.setIfInBounds_toArray, List.set_cons_zero, List.set_cons_succ]
    refine Arl.take (i := 18) (v := ?_) rfl (by kernel_rfl) (by kernel_rfl) (by kernel_rfl) (fun _ _ _ h => h) (by rfl) ?_ HS ?_
    rotate_left
    ·(intro w0 hS0; have hk1 := (blk_cell hS0.1 1).trans HK1.out; have hp0 := cz_ hS0.2.1 0 rfl; have hp5 := cz_ hS0.2.1 5 rfl; have hx0 := (hS0.2.2.cell (World.block_lt_of_cell? _ _ HX.out)).trans HX.out; go_simp; try (with_reducible rfl))
    simp only [Act.put, List.setIfInBounds_toArray, List.set_cons_zero, List.set_cons_succ]
    refine Arl.take (i := 19) (v := ?_) rfl (by kernel_rfl) (by kernel_rfl) (by kernel_rfl) (fun _ _ _ h => h) (by rfl) ?_ HS ?_
    rotate_left
    ·(intro w0 hS0; have hk1 := (blk_cell hS0.1 1).trans HK1.out; have hp0 := cz_ hS0.2.1 0 rfl; have hp5 := cz_ hS0.2.1 5 rfl; have hx0 := (hS0.2.2.cell (World.block_lt_of_cell? _ _ HX.out)).trans HX.out; go_simp; try (with_reducible rfl))
    simp only [Act.put, List.setIfInBounds_toArray, List.set_cons_zero, List.set_cons_succ]
    refine Arl.take (i := 20) (v := ?_) rfl (by kernel_rfl) (by kernel_rfl) (by kernel_rfl) (fun _ _ _ h => h) (by rfl) ?_ HS ?_
    rotate_left
    ·(intro w0 hS0; have hk1 := (blk_cell hS0.1 1).trans HK1.out; have hp0 := cz_ hS0.2.1 0 rfl; have hp5 := cz_ hS0.2.1 5 rfl; have hx0 := (hS0.2.2.cell (World.block_lt_of_cell? _ _ HX.out)).trans HX.out; go_simp; try (with_reducible rfl))
    simp only [Act.put, List.setIfInBounds_toArray, List.set_cons_zero, List.set_cons_succ]
    refine Arl.take (i := 21) (v := ?_) rfl (by kernel_rfl) (by kernel_rfl) (by kernel_rfl) (fun _ _ _ h => h) (by rfl) ?_ HS ?_
    rotate_left
    ·(intro w0 hS0; have hk1 := (blk_cell hS0.1 1).trans HK1.out; have hp0 := cz_ hS0.2.1 0 rfl; have hp5 := cz_ hS0.2.1 5 rfl; have hx0 := (hS0.2.2.cell (World.block_lt_of_cell? _ _ HX.out)).trans HX.out; go_simp; try (with_reducible rfl))
    simp only [Act.put, List.setIfInBounds_toArray, List.set_cons_zero, List.set_cons_succ]
    refine Arl.take (i := 22) (v := ?_) rfl (by kernel_rfl) (by kernel_rfl) (by kernel_rfl) (fun _ _ _ h => h) (by rfl) ?_ HS ?_
    rotate_left
    ·(intro w0 hS0; have hk1 := (blk_cell hS0.1 1).trans HK1.out; have hp0 := cz_ hS0.2.1 0 rfl; have hp5 := cz_ hS0.2.1 5 rfl; have hx0 := (hS0.2.2.cell (World.block_lt_of_cell? _ _ HX.out)).trans HX.out; go_simp; try (with_reducible rfl))
    simp only [Act.put, List.setIfInBounds_toArray, List.set_cons_zero, List.set_cons_succ]
    refine Arl.take (i := 23) (v := ?_) rfl (by kernel_rfl) (by kernel_rfl) (by kernel_rfl) (fun _ _ _ h => h) (by rfl) ?_ HS ?_
    rotate_left
    ·(intro w0 hS0; have hk1 := (blk_cell hS0.1 1).trans HK1.out; have hp0 := cz_ hS0.2.1 0 rfl; have hp5 := cz_ hS0.2.1 5 rfl; have hx0 := (hS0.2.2.cell (World.block_lt_of_cell? _ _ HX.out)).trans HX.out; go_simp; try (with_reducible rfl))
    simp only [Act.put, List.setIfInBounds_toArray, List.set_cons_zero, List.set_cons_succ]
    refine Arl.take (i := 24) (v := ?_) rfl (by kernel_rfl) (by kernel_rfl) (by kernel_rfl) (fun _ _ _ h => h) (by rfl) ?_ HS ?_
    rotate_left
    ·(intro w0 hS0; have hk1 := (blk_cell hS0.1 1).trans HK1.out; have hp0 := cz_ hS0.2.1 0 rfl; have hp5 := cz_ hS0.2.1 5 rfl; have hx0 := (hS0.2.2.cell (World.block_lt_of_cell? _ _ HX.out)).trans HX.out; go_simp; try (with_reducible rfl))
    simp only [Act.put, List.setIfInBounds_toArray, List.set_cons_zero, List.set_cons_succ]
    refine Arl.take (i := 25) (v := ?_) rfl (by kernel_rfl) (by kernel_rfl) (by kernel_rfl) (fun _ _ _ h => h) (by rfl) ?_ HS ?_
    rotate_left
    ·(intro w0 hS0; have hk1 := (blk_cell hS0.1 1).trans HK1.out; have hp0 := cz_ hS0.2.1 0 rfl; have hp5 := cz_ hS0.2.1 5 rfl; have hx0 := (hS0.2.2.cell (World.block_lt_of_cell? _ _ HX.out)).trans HX.out; go_simp; try (with_reducible rfl))
    simp only [Act.put, List.setIfInBounds_toArray, List.set_cons_zero, List.set_cons_succ]
    refine Arl.take (i := 26) (v := ?_) rfl (by kernel_rfl) (by kernel_rfl) (by kernel_rfl) (fun _ _ _ h => h) (by rfl) ?_ HS ?_
    rotate_left
    ·(intro w0 hS0; have hk1 := (blk_cell hS0.1 1).trans HK1.out; have hp0 := cz_ hS0.2.1 0 rfl; have hp5 := cz_ hS0.2.1 5 rfl; have hx0 := (hS0.2.2.cell (World.block_lt_of_cell? _ _ HX.out)).trans HX.out; go_simp; try (with_reducible rfl))
    simp only [Act.put, List.setIfInBounds_toArray, List.set_cons_zero, List.set_cons_succ]
    refine Arl.take (i := 27) (v := ?_) rfl (by kernel_rfl) (by kernel_rfl) (by kernel_rfl) (fun _ _ _ h => h) (by rfl) ?_ HS ?_
    rotate_left
    ·(intro w0 hS0; have hk1 := (blk_cell hS0.1 1).trans HK1.out; have hp0 := cz_ hS0.2.1 0 rfl; have hp5 := cz_ hS0.2.1 5 rfl; have hx0 := (hS0.2.2.cell (World.block_lt_of_cell? _ _ HX.out)).trans HX.out; go_simp; try (with_reducible rfl))
    simp only [Act.put, List.setIfInBounds_toArray, List.set_cons_zero, List.set_cons_succ]
    refine Arl.take (i := 28) (v := ?_) rfl (by kernel_rfl) (by kernel_rfl) (by kernel_rfl) (fun _ _ _ h => h) (by rfl) ?_ HS ?_
    rotate_left
    ·(intro w0 hS0; have hk1 := (blk_cell hS0.1 1).trans HK1.out; have hp0 := cz_ hS0.2.1 0 rfl; have hp5 := cz_ hS0.2.1 5 rfl; have hx0 := (hS0.2.2.cell (World.block_lt_of_cell? _ _ HX.out)).trans HX.out; go_simp; try (with_reducible rfl))
    simp only [Act.put, List.setIfInBounds_toArray, List.set_cons_zero, List.set_cons_succ]
    refine Arl.take (i := 29) (v := ?_) rfl (by kernel_rfl) (by kernel_rfl) (by kernel_rfl) (fun _ _ _ h => h) (by rfl) ?_ HS ?_
    rotate_left
    ·(intro w0 hS0; have hk1 := (blk_cell hS0.1 1).trans HK1.out; have hp0 := cz_ hS0.2.1 0 rfl; have hp5 := cz_ hS0.2.1 5 rfl; have hx0 := (hS0.2.2.cell (World.block_lt_of_cell? _ _ HX.out)).trans HX.out; go_simp; try (with_reducible rfl))
    simp only [Act.put, List.setIfInBounds_toArray, List.set_cons_zero, List.set_cons_succ]
    refine Arl.take (i := 30) (v := ?_) rfl (by kernel_rfl) (by kernel_rfl) (by kernel_rfl) (fun _ _ _ h => h) (by rfl) ?_ HS ?_
    rotate_left
    ·(intro w0 hS0; have hk1 := (blk_cell hS0.1 1).trans HK1.out; have hp0 := cz_ hS0.2.1 0 rfl; have hp5 := cz_ hS0.2.1 5 rfl; have hx0 := (hS0.2.2.cell (World.block_lt_of_cell? _ _ HX.out)).trans HX.out; go_simp; try (with_reducible rfl))
    simp only [Act.put, List.setIfInBounds_toArray, List.set_cons_zero, List.set_cons_succ]
    refine wpAnyH_done (by kernel_rfl) ?_ _
    go_wp2
    go_ret
    exact ⟨rfl, HS.2.2⟩
   rw [if_neg c9] at H; have c9a : decide (s1 ≥ s2) = false := decide_eq_false c9; have c9b : decide (s2 ≤ s1) = false := decide_eq_false c9
   have H' := am_ H
   clear H c9
   refine wp_region_held_drew (S := fun w' => w'.heap[gK]? = some (.cells cl.toArray 44 (0, 0)) ∧ w'.heap[gP]? = some (.cells #[.int .i64 a0_0, .int .i64 a0_1, .int .i64 a0_2, .int .i64 a0_3, .int .i64 a0_4, .slice (some ad0) l0_5.length c0_5] 35 (0, 0)) ∧ Below w.heap.size w w') rfl S0 (fun HS => ?_)
   refine Arl.take (i := 0) (v := .agg cl.toArray) rfl (by kernel_rfl) (by kernel_rfl) (by kernel_rfl) (fun _ _ _ h => h) (by rfl) (fun W hW => spec_PlayerOk.load_run rfl rfl hW.1 hu44 rfl (by rw [HCZ.out]; kernel_rfl)) HS ?_
   simp only [Act.put, List.setIfInBounds_toArray, List.set_cons_zero, List.set_cons_succ]
   refine wpAnyH_ready (rs := [1]) (by kernel_rfl) (by simp) ?_
   refine AllReadyH.cons (o := _) (Arl.nth_some rfl) (fun K hK => ?_) AllReadyH.nil
   go_simp
   go_at_call 51
   with_reducible refine (HPK.out _).mono ?_
   rintro e w31 ⟨rfl, hb⟩
   (try refine ⟨_, rfl, ?_⟩)
   have HS1 := (show _ ∧ _ ∧ _ from ⟨blk_below HS.1 hb, blk_below HS.2.1 hb, below_step HS.2.2 hb⟩); replace HS := HS1; clear HS1 hb
   refine hK.out _ _ HS (fun HS => ?_)
   clear hK
   refine Arl.take (i := 2) (v := ?_) rfl (by kernel_rfl) (by kernel_rfl) (by kernel_rfl) (fun _ _ _ h => h) (by rfl) ?_ HS ?_
   rotate_left
   ·(intro w0 hS0; have hk1 := (blk_cell hS0.1 1).trans HK1.out; have hp0 := cz_ hS0.2.1 0 rfl; have hp5 := cz_ hS0.2.1 5 rfl; have hx0 := (hS0.2.2.cell (World.block_lt_of_cell? _ _ HX.out)).trans HX.out; go_simp; try (with_reducible rfl))
   simp only [Act.put, List.setIfInBounds_toArray, List.set_cons_zero, List.set_cons_succ]
   refine Arl.take (i := 3) (v := ?_) rfl (by kernel_rfl) (by kernel_rfl) (by kernel_rfl) (fun _ _ _ h => h) (by rfl) ?_ HS ?_
   rotate_left
   ·(intro w0 hS0; have hk1 := (blk_cell hS0.1 1).trans HK1.out; have hp0 := cz_ hS0.2.1 0 rfl; have hp5 := cz_ hS0.2.1 5 rfl; have hx0 := (hS0.2.2.cell (World.block_lt_of_cell? _ _ HX.out)).trans HX.out; go_simp; try (with_reducible rfl))
   simp only [Act.put, List.setIfInBounds_toArray, List.set_cons_zero, List.set_cons_succ]
   refine Arl.take (i := 4) (v := ?_) rfl (by kernel_rfl) (by kernel_rfl) (by kernel_rfl) (fun _ _ _ h => h) (by rfl) ?_ HS ?_
   rotate_left
   ·(intro w0 hS0; have hk1 := (blk_cell hS0.1 1).trans HK1.out; have hp0 := cz_ hS0.2.1 0 rfl; have hp5 := cz_ hS0.2.1 5 rfl; have hx0 := (hS0.2.2.cell (World.block_lt_of_cell? _ _ HX.out)).trans HX.out; go_simp; try (with_reducible rfl))
   simp only [Act.put, List.setIfInBounds_toArray, List.set_cons_zero, List.set_cons_succ]
   refine Arl.take (i := 5) (v := ?_) rfl (by kernel_rfl) (by kernel_rfl) (by kernel_rfl) (fun _ _ _ h => h) (by rfl) ?_ HS ?_
   rotate_left
   ·(intro w0 hS0; have hk1 := (blk_cell hS0.1 1).trans HK1.out; have hp0 := cz_ hS0.2.1 0 rfl; have hp5 := cz_ hS0.2.1 5 rfl; have hx0 := (hS0.2.2.cell (World.block_lt_of_cell? _ _ HX.out)).trans HX.out; go_simp; try (with_reducible rfl))
   simp only [Act.put, List.setIfInBounds_toArray, List.set_cons_zero, List.set_cons_succ]
   refine Arl.take (i := 6) (v := ?_) rfl (by kernel_rfl) (by kernel_rfl) (by kernel_rfl) (fun _ _ _ h => h) (by rfl) ?_ HS ?_
   rotate_left
   ·(intro w0 hS0; have hk1 := (blk_cell hS0.1 1).trans HK1.out; have hp0 := cz_ hS0.2.1 0 rfl; have hp5 := cz_ hS0.2.1 5 rfl; have hx0 := (hS0.2.2.cell (World.block_lt_of_cell? _ _ HX.out)).trans HX.out; go_simp; try (with_reducible rfl))
   simp only [Act.put, List.setIfInBounds_toArray, List.set_cons_zero, List.set_cons_succ]
   refine Arl.take (i := 7) (v := ?_) rfl (by kernel_rfl) (by kernel_rfl) (by kernel_rfl) (fun _ _ _ h => h) (by rfl) ?_ HS ?_
   rotate_left
   ·(intro w0 hS0; have hk1 := (blk_cell hS0.1 1).trans HK1.out; have hp0 := cz_ hS0.2.1 0 rfl; have hp5 := cz_ hS0.2.1 5 rfl; have hx0 := (hS0.2.2.cell (World.block_lt_of_cell? _ _ HX.out)).trans HX.out; go_simp; try (with_reducible rfl))
   simp only [Act.put, List.setIfInBounds_toArray, List.set_cons_zero, List.set_cons_succ]
   refine Arl.take (i := 8) (v := ?_) rfl (by kernel_rfl) (by kernel_rfl) (by kernel_rfl) (fun _ _ _ h => h) (by rfl) ?_ HS ?_
   rotate_left
   ·(intro w0 hS0; have hk1 := (blk_cell hS0.1 1).trans HK1.out; have hp0 := cz_ hS0.2.1 0 rfl; have hp5 := cz_ hS0.2.1 5 rfl; have hx0 := (hS0.2.2.cell (World.block_lt_of_cell? _ _ HX.out)).trans HX.out; go_simp; try (with_reducible rfl))
   simp only [Act.put, List.setIfInBounds_toArray, List.set_cons_zero, List.set_cons_succ]
   refine Arl.take (i := 9) (v := ?_) rfl (by kernel_rfl) (by kernel_rfl) (by kernel_rfl) (fun _ _ _ h => h) (by rfl) ?_ HS ?_
   rotate_left
   ·(intro w0 hS0; have hk1 := (blk_cell hS0.1 1).trans HK1.out; have hp0 := cz_ hS0.2.1 0 rfl; have hp5 := cz_ hS0.2.1 5 rfl; have hx0 := (hS0.2.2.cell (World.block_lt_of_cell? _ _ HX.out)).trans HX.out; go_simp; try (with_reducible rfl))
   simp only [Act.put, List.setIfInBounds_toArray, List.set_cons_zero, List.set_cons_succ]
   refine Arl.take (i := 10) (v := ?_) rfl (by kernel_rfl) (by kernel_rfl) (by kernel_rfl) (fun _ _ _ h => h) (by rfl) ?_ HS ?_
   rotate_left
   ·(intro w0 hS0; have hk1 := (blk_cell hS0.1 1).trans HK1.out; have hp0 := cz_ hS0.2.1 0 rfl; have hp5 := cz_ hS0.2.1 5 rfl; have hx0 := (hS0.2.2.cell (World.block_lt_of_cell? _ _ HX.out)).trans HX.out; go_simp; try (with_reducible rfl))
   simp only [Act.put, List.setIfInBounds_toArray, List.set_cons_zero, List.set_cons_succ]
   refine Arl.take (i := 11) (v := ?_) rfl (by kernel_rfl) (by kernel_rfl) (by kernel_rfl) (fun _ _ _ h => h) (by rfl) ?_ HS ?_
   rotate_left
   ·(intro w0 hS0; have hk1 := (blk_cell hS0.1 1).trans HK1.out; have hp0 := cz_ hS0.2.1 0 rfl; have hp5 := cz_ hS0.2.1 5 rfl; have hx0 := (hS0.2.2.cell (World.block_lt_of_cell? _ _ HX.out)).trans HX.out; go_simp; try (with_reducible rfl))
   simp only [Act.put, List.setIfInBounds_toArray, List.set_cons_zero, List.set_cons_succ]
   refine wpAnyH_ready (rs := [12]) (by kernel_rfl) (by simp) ?_
   refine AllReadyH.cons (o := _) (Arl.nth_some rfl) (fun K hK => ?_) AllReadyH.nil
   go_simp
   go_at_call 48
   with_reducible refine (HIN.out _).mono ?_
   rintro e w42 ⟨rfl, hb⟩
   (try refine ⟨_, rfl, ?_⟩)
   have HS1 := (show _ ∧ _ ∧ _ from ⟨blk_below HS.1 hb, blk_below HS.2.1 hb, below_step HS.2.2 hb⟩); replace HS := HS1; clear HS1 hb
   refine hK.out _ _ HS (fun HS => ?_)
   clear hK
   refine Arl.take (i := 13) (v := ?_) rfl (by kernel_rfl) (by kernel_rfl) (by kernel_rfl) (fun _ _ _ h => h) (by rfl) ?_ HS ?_
   rotate_left
   ·(intro w0 hS0; have hk1 := (blk_cell hS0.1 1).trans HK1.out; have hp0 := cz_ hS0.2.1 0 rfl; have hp5 := cz_ hS0.2.1 5 rfl; have hx0 := (hS0.2.2.cell (World.block_lt_of_cell? _ _ HX.out)).trans HX.out; go_simp; try (with_reducible rfl))
   simp only [Act.put, List.setIfInBounds_toArray, List.set_cons_zero, List.set_cons_succ]
   refine Arl.take (i := 14) (v := ?_) rfl (by kernel_rfl) (by kernel_rfl) (by kernel_rfl) (fun _ _ _ h => h) (by rfl) ?_ HS ?_
   rotate_left
   ·(intro w0 hS0; have hk1 := (blk_cell hS0.1 1).trans HK1.out; have hp0 := cz_ hS0.2.1 0 rfl; have hp5 := cz_ hS0.2.1 5 rfl; have hx0 := (hS0.2.2.cell (World.block_lt_of_cell? _ _ HX.out)).trans HX.out; go_simp; try (with_reducible rfl))
   simp only [Act.put, List.setIfInBounds_toArray, List.set_cons_zero, List.set_cons_succ]
   refine Arl.take (i := 15) (v := ?_) rfl (by kernel_rfl) (by kernel_rfl) (by kernel_rfl) (fun _ _ _ h => h) (by rfl) ?_ HS ?_
   rotate_left
   ·(intro w0 hS0; have hk1 := (blk_cell hS0.1 1).trans HK1.out; have hp0 := cz_ hS0.2.1 0 rfl; have hp5 := cz_ hS0.2.1 5 rfl; have hx0 := (hS0.2.2.cell (World.block_lt_of_cell? _ _ HX.out)).trans HX.out; go_simp; try (with_reducible rfl))
   simp only [Act.put, List.setIfInBounds_toArray, List.set_cons_zero, List.set_cons_succ]
   refine Arl.take (i := 16) (v := ?_) rfl (by kernel_rfl) (by kernel_rfl) (by kernel_rfl) (fun _ _ _ h => h) (by rfl) ?_ HS ?_
   rotate_left
   ·(intro w0 hS0; have hk1 := (blk_cell hS0.1 1).trans HK1.out; have hp0 := cz_ hS0.2.1 0 rfl; have hp5 := cz_ hS0.2.1 5 rfl; have hx0 := (hS0.2.2.cell (World.block_lt_of_cell? _ _ HX.out)).trans HX.out; go_simp; try (with_reducible rfl))
   simp only [Act.put, List.setIfInBounds_toArray, List.set_cons_zero, List.set_cons_succ]
   refine Arl.take (i := 17) (v := ?_) rfl (by kernel_rfl) (by kernel_rfl) (by kernel_rfl) (fun _ _ _ h => h) (by rfl) ?_ HS ?_
   rotate_left
   ·(intro w0 hS0; have hk1 := (blk_cell hS0.1 1).trans HK1.out; have hp0 := cz_ hS0.2.1 0 rfl; have hp5 := cz_ hS0.2.1 5 rfl; have hx0 := (hS0.2.2.cell (World.block_lt_of_cell? _ _ HX.out)).trans HX.out; go_simp; try (with_reducible rfl))
   simp only [Act.put, List.setIfInBounds_toArray, List.set_cons_zero, List.set_cons_succ]
   refine Arl.take (i := 18) (v := ?_) rfl (by kernel_rfl) (by kernel_rfl) (by kernel_rfl) (fun _ _ _ h => h) (by rfl) ?_ HS ?_
   rotate_left
   ·(intro w0 hS0; have hk1 := (blk_cell hS0.1 1).trans HK1.out; have hp0 := cz_ hS0.2.1 0 rfl; have hp5 := cz_ hS0.2.1 5 rfl; have hx0 := (hS0.2.2.cell (World.block_lt_of_cell? _ _ HX.out)).trans HX.out; go_simp; try (with_reducible rfl))
   simp only [Act.put, List.setIfInBounds_toArray, List.set_cons_zero, List.set_cons_succ]
   refine Arl.take (i := 19) (v := ?_) rfl (by kernel_rfl) (by kernel_rfl) (by kernel_rfl) (fun _ _ _ h => h) (by rfl) ?_ HS ?_
   rotate_left
   ·(intro w0 hS0; have hk1 := (blk_cell hS0.1 1).trans HK1.out; have hp0 := cz_ hS0.2.1 0 rfl; have hp5 := cz_ hS0.2.1 5 rfl; have hx0 := (hS0.2.2.cell (World.block_lt_of_cell? _ _ HX.out)).trans HX.out; go_simp; try (with_reducible rfl))
   simp only [Act.put, List.setIfInBounds_toArray, List.set_cons_zero, List.set_cons_succ]
   refine Arl.take (i := 20) (v := ?_) rfl (by kernel_rfl) (by kernel_rfl) (by kernel_rfl) (fun _ _ _ h => h) (by rfl) ?_ HS ?_
   rotate_left
   ·(intro w0 hS0; have hk1 := (blk_cell hS0.1 1).trans HK1.out; have hp0 := cz_ hS0.2.1 0 rfl; have hp5 := cz_ hS0.2.1 5 rfl; have hx0 := (hS0.2.2.cell (World.block_lt_of_cell? _ _ HX.out)).trans HX.out; go_simp; try (with_reducible rfl))
   simp only [Act.put, List.setIfInBounds_toArray, List.set_cons_zero, List.set_cons_succ]
   refine Arl.take (i := 21) (v := ?_) rfl (by kernel_rfl) (by kernel_rfl) (by kernel_rfl) (fun _ _ _ h => h) (by rfl) ?_ HS ?_
   rotate_left
   ·(intro w0 hS0; have hk1 := (blk_cell hS0.1 1).trans HK1.out; have hp0 := cz_ hS0.2.1 0 rfl; have hp5 := cz_ hS0.2.1 5 rfl; have hx0 := (hS0.2.2.cell (World.block_lt_of_cell? _ _ HX.out)).trans HX.out; go_simp; try (with_reducible rfl))
   simp only [Act.put, List.setIfInBounds_toArray, List.set_cons_zero, List.set_cons_succ]
   refine Arl.take (i := 22) (v := ?_) rfl (by kernel_rfl) (by kernel_rfl) (by kernel_rfl) (fun _ _ _ h => h) (by rfl) ?_ HS ?_
   rotate_left
   ·(intro w0 hS0; have hk1 := (blk_cell hS0.1 1).trans HK1.out; have hp0 := cz_ hS0.2.1 0 rfl; have hp5 := cz_ hS0.2.1 5 rfl; have hx0 := (hS0.2.2.cell (World.block_lt_of_cell? _ _ HX.out)).trans HX.out; go_simp; try (with_reducible rfl))
   simp only [Act.put, List.setIfInBounds_toArray, List.set_cons_zero, List.set_cons_succ]
   refine Arl.take (i := 23) (v := ?_) rfl (by kernel_rfl) (by kernel_rfl) (by kernel_rfl) (fun _ _ _ h => h) (by rfl) ?_ HS ?_
   rotate_left
   ·(intro w0 hS0; have hk1 := (blk_cell hS0.1 1).trans HK1.out; have hp0 := cz_ hS0.2.1 0 rfl; have hp5 := cz_ hS0.2.1 5 rfl; have hx0 := (hS0.2.2.cell (World.block_lt_of_cell? _ _ HX.out)).trans HX.out; go_simp; try (with_reducible rfl))
   simp only [Act.put, List.setIfInBounds_toArray, List.set_cons_zero, List.set_cons_succ]
   refine Arl.take (i := 24) (v := ?_) rfl (by kernel_rfl) (by kernel_rfl) (by kernel_rfl) (fun _ _ _ h => h) (by rfl) ?_ HS ?_
   rotate_left
   ·(intro w0 hS0; have hk1 := (blk_cell hS0.1 1).trans HK1.out; have hp0 := cz_ hS0.2.1 0 rfl; have hp5 := cz_ hS0.2.1 5 rfl; have hx0 := (hS0.2.2.cell (World.block_lt_of_cell? _ _ HX.out)).trans HX.out; go_simp; try (with_reducible rfl))
   simp only [Act.put, List.setIfInBounds_toArray, List.set_cons_zero, List.set_cons_succ]
   refine Arl.take (i := 25) (v := ?_) rfl (by kernel_rfl) (by kernel_rfl) (by kernel_rfl) (fun _ _ _ h => h) (by rfl) ?_ HS ?_
   rotate_left
   ·(intro w0 hS0; have hk1 := (blk_cell hS0.1 1).trans HK1.out; have hp0 := cz_ hS0.2.1 0 rfl; have hp5 := cz_ hS0.2.1 5 rfl; have hx0 := (hS0.2.2.cell (World.block_lt_of_cell? _ _ HX.out)).trans HX.out; go_simp; try (with_reducible rfl))
   simp only [Act.put, List.setIfInBounds_toArray, List.set_cons_zero, List.set_cons_succ]
   refine Arl.take (i := 26) (v := ?_) rfl (by kernel_rfl) (by kernel_rfl) (by kernel_rfl) (fun _ _ _ h => h) (by rfl) ?_ HS ?_
   rotate_left
   ·(intro w0 hS0; have hk1 := (blk_cell hS0.1 1).trans HK1.out; have hp0 := cz_ hS0.2.1 0 rfl; have hp5 := cz_ hS0.2.1 5 rfl; have hx0 := (hS0.2.2.cell (World.block_lt_of_cell? _ _ HX.out)).trans HX.out; go_simp; try (with_reducible rfl))
   simp only [Act.put, List.setIfInBounds_toArray, List.set_cons_zero, List.set_cons_succ]
   refine Arl.take (i := 27) (v := ?_) rfl (by kernel_rfl) (by kernel_rfl) (by kernel_rfl) (fun _ _ _ h => h) (by rfl) ?_ HS ?_
   rotate_left
   ·(intro w0 hS0; have hk1 := (blk_cell hS0.1 1).trans HK1.out; have hp0 := cz_ hS0.2.1 0 rfl; have hp5 := cz_ hS0.2.1 5 rfl; have hx0 := (hS0.2.2.cell (World.block_lt_of_cell? _ _ HX.out)).trans HX.out; go_simp; try (with_reducible rfl))
   simp only [Act.put, List.setIfInBounds_toArray, List.set_cons_zero, List.set_cons_succ]
   refine Arl.take (i := 28) (v := ?_) rfl (by kernel_rfl) (by kernel_rfl) (by kernel_rfl) (fun _ _ _ h => h) (by rfl) ?_ HS ?_
   rotate_left
   ·(intro w0 hS0; have hk1 := (blk_cell hS0.1 1).trans HK1.out; have hp0 := cz_ hS0.2.1 0 rfl; have hp5 := cz_ hS0.2.1 5 rfl; have hx0 := (hS0.2.2.cell (World.block_lt_of_cell? _ _ HX.out)).trans HX.out; go_simp; try (with_reducible rfl))
   simp only [Act.put, List.setIfInBounds_toArray, List.set_cons_zero, List.set_cons_succ]
   refine Arl.take (i := 29) (v := ?_) rfl (by kernel_rfl) (by kernel_rfl) (by kernel_rfl) (fun _ _ _ h => h) (by rfl) ?_ HS ?_
   rotate_left
   ·(intro w0 hS0; have hk1 := (blk_cell hS0.1 1).trans HK1.out; have hp0 := cz_ hS0.2.1 0 rfl; have hp5 := cz_ hS0.2.1 5 rfl; have hx0 := (hS0.2.2.cell (World.block_lt_of_cell? _ _ HX.out)).trans HX.out; go_simp; try (with_reducible rfl))
   simp only [Act.put, List.setIfInBounds_toArray, List.set_cons_zero, List.set_cons_succ]
   refine Arl.take (i := 30) (v := ?_) rfl (by kernel_rfl) (by kernel_rfl) (by kernel_rfl) (fun _ _ _ h => h) (by rfl) ?_ HS ?_
   rotate_left
   ·(intro w0 hS0; have hk1 := (blk_cell hS0.1 1).trans HK1.out; have hp0 := cz_ hS0.2.1 0 rfl; have hp5 := cz_ hS0.2.1 5 rfl; have hx0 := (hS0.2.2.cell (World.block_lt_of_cell? _ _ HX.out)).trans HX.out; go_simp; try (with_reducible rfl))
   simp only [Act.put, List.setIfInBounds_toArray, List.set_cons_zero, List.set_cons_succ]
   refine wpAnyH_done (by kernel_rfl) ?_ _
   go_wp2
   go_roundg k1
   case measure => have := HK.out; omega
   case rel => exact ⟨wrap64 (x + 1), rfl, H', ⟨by have := HK.out; omega⟩, ⟨HS.2.1⟩, ⟨HS.2.2⟩⟩
end Go.Proofs.Ytbgdmbjipladoaa.PFnExactPlay
