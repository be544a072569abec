-- laid by a program of this session (wip/lay/lay.py); Lean checks it
import Derived.Test.YtkcmdfeiaafdjaaVFnHopsShort
import Derived.Test.YtkcmdfeiaafdjaaPFnHopsx0
import Derived.Test.YtkcmdfeiaafdjaaPFnHopsx3
import Derived.Test.YtkcmdfeiaafdjaaPFnHopsx8
import Derived.Test.YtkcmdfeiaafdjaaPFnHopsx10
namespace Go.Proofs.Ytkcmdfeiaafdjaa.PFnHops
-- squashed
open Go.RowKit Go.Proofs.YtkcmdfeiaafdjaaW.PrintWords Go.Proofs.YtkcmdfeiaafdjaaW.PrintLast Go.Proofs.YtkcmdfeiaafdjaaW.PrintMore Go.Proofs.Ytkcmdfeiaafdjaa.Short
attribute [local go_sem] max2_int min2_int max_two min_two max_three min_three max_four min_four   -- for this text's walks alone
set_option linter.unusedVariables false
set_option linter.unusedSimpArgs false

theorem cz11_ {w : World} {g : Nat} {t : TypeId} {cs : Array Value} {v : Value} (h : w.heap[g]? = some (.cells cs t (0, 0))) (i : Nat) (e : cs[i]? = some v) : w.cell? ⟨g, i, none⟩ = some v := (blk_cell h i).trans e
theorem nn11_ {a b : Nat} (h : a ≠ b) : a ≠ b ∧ b ≠ a := ⟨h, h.symm⟩
/-! ### laws_FnHops: function 4 -/
mutual
def laws_FnHops.j0 : Nat → Int → Int → Bool → Int → Int → List Int → Int → Int → List Int → Option (Bool)
 | 0, _, _, _, _, _, _, _, _, _ => none
 | k + 1, x4, x5, x44, x382000, x382001, x382002, x388000, x388001, x388002 => if x44 = true then (some false) else ((impl_Route7.f k (List.replicate 2 z43) 0 1).bind fun bt392 => (if bt392.1 = 1 then (if x388000 = 8 then (laws_FnHops.j1 k x4 x5 true x382000 x382001 x382002) else (laws_FnHops.j1 k x4 x5 (x388000 == 5) x382000 x382001 x382002)) else (some false)))
def laws_FnHops.j1 : Nat → Int → Int → Bool → Int → Int → List Int → Option (Bool)
 | 0, _, _, _, _, _, _ => none
 | k + 1, x4, x5, x56, x382000, x382001, x382002 => if x56 = true then (some ((x382002.length : Int) == 0)) else (laws_FnHops.l0 k x4 x5 0 x382000 x382001 x382002)
def laws_FnHops.l0 : Nat → Int → Int → Int → Int → Int → List Int → Option (Bool)
 | 0, _, _, _, _, _, _ => none
 | k + 1, x4, x5, x8, x382000, x382001, x382002 => if x8 < (x382002.length : Int) then (if 0 ≤ x8 then (if x8 ≤ (x382002.length : Int) then ((laws_within.f k (x382002.take (x8 : Int).toNat) (rd x382002 x8)).bind fun t402 => (if t402 = true then (some false) else (if (rd x382002 x8) = x4 then (some false) else (laws_FnHops.l0 k x4 x5 (wrap64 (x8 + 1)) x382000 x382001 x382002)))) else (none)) else (none)) else (if (x382002.length : Int) ≤ 6 then (if (x382002.length : Int) = 0 then (if x382001 = x5 then (some true) else (if (x382002.length : Int) > 0 then (if 0 < (x382002.length : Int) then (some ((rd x382002 0) == x5)) else (none)) else (some false))) else (if (x382002.length : Int) > 0 then (if 0 < (x382002.length : Int) then (some ((rd x382002 0) == x5)) else (none)) else (some false))) else (some false))
end
def laws_FnHops.f (k : Nat) (l0 : List Int) : Option (Bool) := (laws_big.f l0).bind fun t370 => (if t370 = true then (some true) else ((spec_DrawRoute7.f k l0).bind fun bt371 => ((impl_Route7.f k bt371.1 bt371.2.1 bt371.2.2).bind fun bt376 => ((spec_Route7.f k bt371.1 bt371.2.1 bt371.2.2).bind fun bt382 => (if bt376.1 = bt382.1 then (if bt376.2.1 = bt382.2.1 then ((laws_sameInts.f k bt376.2.2 bt382.2.2).bind fun t388 => (laws_FnHops.j0 k bt371.2.1 bt371.2.2 (!t388) bt376.1 bt376.2.1 bt376.2.2 bt382.1 bt382.2.1 bt382.2.2)) else (laws_FnHops.j0 k bt371.2.1 bt371.2.2 true bt376.1 bt376.2.1 bt376.2.2 bt382.1 bt382.2.1 bt382.2.2)) else (laws_FnHops.j0 k bt371.2.1 bt371.2.2 true bt376.1 bt376.2.1 bt376.2.2 bt382.1 bt382.2.1 bt382.2.2))))))
theorem laws_FnHops.mono_l : ∀ k, (∀ y0 y1 y2 y3 y4 y5 y6 y7 y8, LeO (laws_FnHops.j0 k y0 y1 y2 y3 y4 y5 y6 y7 y8) (laws_FnHops.j0 (k + 1) y0 y1 y2 y3 y4 y5 y6 y7 y8)) ∧ (∀ y0 y1 y2 y3 y4 y5, LeO (laws_FnHops.j1 k y0 y1 y2 y3 y4 y5) (laws_FnHops.j1 (k + 1) y0 y1 y2 y3 y4 y5)) ∧ (∀ y0 y1 y2 y3 y4 y5, LeO (laws_FnHops.l0 k y0 y1 y2 y3 y4 y5) (laws_FnHops.l0 (k + 1) y0 y1 y2 y3 y4 y5))
 | 0 => ⟨fun _ _ _ _ _ _ _ _ _ r h => by simp [laws_FnHops.j0] at h, fun _ _ _ _ _ _ r h => by simp [laws_FnHops.j1] at h, fun _ _ _ _ _ _ r h => by simp [laws_FnHops.l0] at h⟩
 | k + 1 => by
  obtain ⟨ih0, ih1, ih2⟩ := laws_FnHops.mono_l k
  refine ⟨?_, ?_, ?_⟩
  ·intro y0 y1 y2 y3 y4 y5 y6 y7 y8
   unfold laws_FnHops.j0
   repeat' first
   | (with_reducible exact ih0 _ _ _ _ _ _ _ _ _)
   | (with_reducible exact ih1 _ _ _ _ _ _)
   | (with_reducible exact ih2 _ _ _ _ _ _)
   | (with_reducible exact impl_Route7.mono _ _ _ _)
   | (with_reducible exact laws_sameInts.mono _ _ _)
   | (with_reducible exact laws_within.mono _ _ _)
   | (with_reducible exact spec_DrawRoute7.mono _ _)
   | (with_reducible exact spec_Route7.mono _ _ _ _)
   | (with_reducible exact LeO.refl _)
   | (with_reducible exact LeO.none _)
   | (with_reducible refine LeO.ite ?_ ?_)
   | (with_reducible refine LeO.bind ?_ (fun _ => ?_))
   | exact ih0 _ _ _ _ _ _ _ _ _
   | exact ih1 _ _ _ _ _ _
   | exact ih2 _ _ _ _ _ _
   | exact impl_Route7.mono _ _ _ _
   | exact laws_sameInts.mono _ _ _
   | exact laws_within.mono _ _ _
   | exact spec_DrawRoute7.mono _ _
   | exact spec_Route7.mono _ _ _ _
   | exact LeO.none _
   | refine LeO.ite ?_ ?_
   | refine LeO.bind ?_ (fun _ => ?_)
  ·intro y0 y1 y2 y3 y4 y5
   unfold laws_FnHops.j1
   repeat' first
   | (with_reducible exact ih0 _ _ _ _ _ _ _ _ _)
   | (with_reducible exact ih1 _ _ _ _ _ _)
   | (with_reducible exact ih2 _ _ _ _ _ _)
   | (with_reducible exact impl_Route7.mono _ _ _ _)
   | (with_reducible exact laws_sameInts.mono _ _ _)
   | (with_reducible exact laws_within.mono _ _ _)
   | (with_reducible exact spec_DrawRoute7.mono _ _)
   | (with_reducible exact spec_Route7.mono _ _ _ _)
   | (with_reducible exact LeO.refl _)
   | (with_reducible exact LeO.none _)
   | (with_reducible refine LeO.ite ?_ ?_)
   | (with_reducible refine LeO.bind ?_ (fun _ => ?_))
   | exact ih0 _ _ _ _ _ _ _ _ _
   | exact ih1 _ _ _ _ _ _
   | exact ih2 _ _ _ _ _ _
   | exact impl_Route7.mono _ _ _ _
   | exact laws_sameInts.mono _ _ _
   | exact laws_within.mono _ _ _
   | exact spec_DrawRoute7.mono _ _
   | exact spec_Route7.mono _ _ _ _
   | exact LeO.none _
   | refine LeO.ite ?_ ?_
   | refine LeO.bind ?_ (fun _ => ?_)
  ·intro y0 y1 y2 y3 y4 y5
   unfold laws_FnHops.l0
   repeat' first
   | (with_reducible exact ih0 _ _ _ _ _ _ _ _ _)
   | (with_reducible exact ih1 _ _ _ _ _ _)
   | (with_reducible exact ih2 _ _ _ _ _ _)
   | (with_reducible exact impl_Route7.mono _ _ _ _)
   | (with_reducible exact laws_sameInts.mono _ _ _)
   | (with_reducible exact laws_within.mono _ _ _)
   | (with_reducible exact spec_DrawRoute7.mono _ _)
   | (with_reducible exact spec_Route7.mono _ _ _ _)
   | (with_reducible exact LeO.refl _)
   | (with_reducible exact LeO.none _)
   | (with_reducible refine LeO.ite ?_ ?_)
   | (with_reducible refine LeO.bind ?_ (fun _ => ?_))
   | exact ih0 _ _ _ _ _ _ _ _ _
   | exact ih1 _ _ _ _ _ _
   | exact ih2 _ _ _ _ _ _
   | exact impl_Route7.mono _ _ _ _
   | exact laws_sameInts.mono _ _ _
   | exact laws_within.mono _ _ _
   | exact spec_DrawRoute7.mono _ _
   | exact spec_Route7.mono _ _ _ _
   | exact LeO.none _
   | refine LeO.ite ?_ ?_
   | refine LeO.bind ?_ (fun _ => ?_)
theorem laws_FnHops.mono : ∀ a0 k, LeO (laws_FnHops.f k a0) (laws_FnHops.f (k + 1) a0) := by
 intro a0 k
 obtain ⟨ih0, ih1, ih2⟩ := laws_FnHops.mono_l k
 unfold laws_FnHops.f
 repeat' first
   | (with_reducible exact ih0 _ _ _ _ _ _ _ _ _)
   | (with_reducible exact ih1 _ _ _ _ _ _)
   | (with_reducible exact ih2 _ _ _ _ _ _)
   | (with_reducible exact impl_Route7.mono _ _ _ _)
   | (with_reducible exact laws_sameInts.mono _ _ _)
   | (with_reducible exact laws_within.mono _ _ _)
   | (with_reducible exact spec_DrawRoute7.mono _ _)
   | (with_reducible exact spec_Route7.mono _ _ _ _)
   | (with_reducible exact LeO.refl _)
   | (with_reducible exact LeO.none _)
   | (with_reducible refine LeO.ite ?_ ?_)
   | (with_reducible refine LeO.bind ?_ (fun _ => ?_))
   | exact ih0 _ _ _ _ _ _ _ _ _
   | exact ih1 _ _ _ _ _ _
   | exact ih2 _ _ _ _ _ _
   | exact impl_Route7.mono _ _ _ _
   | exact laws_sameInts.mono _ _ _
   | exact laws_within.mono _ _ _
   | exact spec_DrawRoute7.mono _ _
   | exact spec_Route7.mono _ _ _ _
   | exact LeO.none _
   | refine LeO.ite ?_ ?_
   | refine LeO.bind ?_ (fun _ => ?_)
set_option maxHeartbeats 8000000 in
set_option maxRecDepth 100000 in
theorem laws_FnHops.calls (k : Nat) (A0 : Option Addr) (c0 : Nat) (l0 : List Int) (r : Bool) (w : World) (hr0 : Kd.C (Kd.int .u8) w A0 l0.length l0) (hc0 : l0.length ≤ c0) (h : laws_FnHops.f k l0 = some r) :
  Calls Try.prog 4 #[.slice A0 l0.length c0] w fun e w' => e = .returned (.bool r) ∧ Below w.heap.size w w' := by
 have hu26 := Try.underlying26; have HR0 := Aside0.mk hr0; have HC0 := Aside0.mk hc0; clear hr0 hc0; have HB := Aside0.mk (Below.refl w.heap.size w)
 have H : ((laws_big.f l0).bind fun t370 => (if t370 = true then (some true) else ((spec_DrawRoute7.f k l0).bind fun bt371 => ((impl_Route7.f k bt371.1 bt371.2.1 bt371.2.2).bind fun bt376 => ((spec_Route7.f k bt371.1 bt371.2.1 bt371.2.2).bind fun bt382 => (if bt376.1 = bt382.1 then (if bt376.2.1 = bt382.2.1 then ((laws_sameInts.f k bt376.2.2 bt382.2.2).bind fun t388 => (laws_FnHops.j0 k bt371.2.1 bt371.2.2 (!t388) bt376.1 bt376.2.1 bt376.2.2 bt382.1 bt382.2.1 bt382.2.2)) else (laws_FnHops.j0 k bt371.2.1 bt371.2.2 true bt376.1 bt376.2.1 bt376.2.2 bt382.1 bt382.2.1 bt382.2.2)) else (laws_FnHops.j0 k bt371.2.1 bt371.2.2 true bt376.1 bt376.2.1 bt376.2.2 bt382.1 bt382.2.1 bt382.2.2))))))) = some r := h
 clear h; replace H := Option.bind_eq_some_iff.mp H; obtain ⟨t370, A20, H⟩ := H
 replace H : (if t370 = true then (some true) else ((spec_DrawRoute7.f k l0).bind fun bt371 => ((impl_Route7.f k bt371.1 bt371.2.1 bt371.2.2).bind fun bt376 => ((spec_Route7.f k bt371.1 bt371.2.1 bt371.2.2).bind fun bt382 => (if bt376.1 = bt382.1 then (if bt376.2.1 = bt382.2.1 then ((laws_sameInts.f k bt376.2.2 bt382.2.2).bind fun t388 => (laws_FnHops.j0 k bt371.2.1 bt371.2.2 (!t388) bt376.1 bt376.2.1 bt376.2.2 bt382.1 bt382.2.1 bt382.2.2)) else (laws_FnHops.j0 k bt371.2.1 bt371.2.2 true bt376.1 bt376.2.1 bt376.2.2 bt382.1 bt382.2.1 bt382.2.2)) else (laws_FnHops.j0 k bt371.2.1 bt371.2.2 true bt376.1 bt376.2.1 bt376.2.2 bt382.1 bt382.2.1 bt382.2.2)))))) = some r := H
 have A2 := Aside0.mk A20; clear A20
 by_cases c3 : t370 = true
 case pos =>
  subst c3
  have H1 : (some true) = some r := by rw [if_pos rfl] at H; exact H
  clear H; have H := H1; clear H1; obtain rfl := Option.some.inj H
  go_enter Try.func4, Try.ntmps4
  go_wp2_with (first | (go_at_call 18; (with_reducible refine (laws_big.calls _ _ l0 true _ ?side1 ?side2 A2.out).mono ?_); (case side1 => repeat (first | exact HR0.out | (with_reducible refine Kd.C_alloc ?_ _) | (with_reducible refine Kd.C_drewN ?_ _) | (with_reducible refine Kd.C_drew ?_))); (case side2 => exact HC0.out); rintro e w' ⟨rfl, ⟨nd, rfl⟩⟩; (try first | exact ⟨rfl, _, World.drewN_drewN _ _ _⟩ | exact ⟨rfl, _, Eq.trans (World.drewN_drewN _ _ _) (congrArg (World.drewN _) (Nat.add_assoc _ _ _))⟩)) | ((with_reducible refine wp_region_quiet_lit ?qm ?qb ?_); (case qm => kernel_rfl); (case qb => kernel_rfl)) | ((with_reducible refine wpQuiet_step ?_); intro K hK; go_simp; first | (refine hK _ ?_; clear hK K) | (apply Exists.intro; refine ⟨fun _ => ?_, hK _ ?_⟩; rotate_left; (try clear hK K); rotate_right)) | ((with_reducible refine wpQuiet_nil ?_); intro _ hw'; obtain ⟨nq, hw''⟩ := hw'; subst hw''))
  go_ret
  exact ⟨by first | rfl | (simp [errW_none, errW_some] <;> rfl) | (simp [*, errW_none, errW_some] <;> rfl), belowNow⟩
 replace c3 := Bool.eq_false_iff.mpr c3; subst c3
 have H1 : ((spec_DrawRoute7.f k l0).bind fun bt371 => ((impl_Route7.f k bt371.1 bt371.2.1 bt371.2.2).bind fun bt376 => ((spec_Route7.f k bt371.1 bt371.2.1 bt371.2.2).bind fun bt382 => (if bt376.1 = bt382.1 then (if bt376.2.1 = bt382.2.1 then ((laws_sameInts.f k bt376.2.2 bt382.2.2).bind fun t388 => (laws_FnHops.j0 k bt371.2.1 bt371.2.2 (!t388) bt376.1 bt376.2.1 bt376.2.2 bt382.1 bt382.2.1 bt382.2.2)) else (laws_FnHops.j0 k bt371.2.1 bt371.2.2 true bt376.1 bt376.2.1 bt376.2.2 bt382.1 bt382.2.1 bt382.2.2)) else (laws_FnHops.j0 k bt371.2.1 bt371.2.2 true bt376.1 bt376.2.1 bt376.2.2 bt382.1 bt382.2.1 bt382.2.2))))) = some r := by rw [if_neg (show ¬ (false = true) by decide)] at H; exact H
 clear H; have H := H1; clear H1; replace H := Option.bind_eq_some_iff.mp H; obtain ⟨⟨t371, t372, t373⟩, A40, H⟩ := H
 replace H : ((impl_Route7.f k t371 t372 t373).bind fun bt376 => ((spec_Route7.f k t371 t372 t373).bind fun bt382 => (if bt376.1 = bt382.1 then (if bt376.2.1 = bt382.2.1 then ((laws_sameInts.f k bt376.2.2 bt382.2.2).bind fun t388 => (laws_FnHops.j0 k t372 t373 (!t388) bt376.1 bt376.2.1 bt376.2.2 bt382.1 bt382.2.1 bt382.2.2)) else (laws_FnHops.j0 k t372 t373 true bt376.1 bt376.2.1 bt376.2.2 bt382.1 bt382.2.1 bt382.2.2)) else (laws_FnHops.j0 k t372 t373 true bt376.1 bt376.2.1 bt376.2.2 bt382.1 bt382.2.1 bt382.2.2)))) = some r := H
 have A4 := Aside0.mk A40; clear A40; replace H := Option.bind_eq_some_iff.mp H; obtain ⟨⟨t376, t377, t378⟩, A50, H⟩ := H
 replace H : ((spec_Route7.f k t371 t372 t373).bind fun bt382 => (if t376 = bt382.1 then (if t377 = bt382.2.1 then ((laws_sameInts.f k t378 bt382.2.2).bind fun t388 => (laws_FnHops.j0 k t372 t373 (!t388) t376 t377 t378 bt382.1 bt382.2.1 bt382.2.2)) else (laws_FnHops.j0 k t372 t373 true t376 t377 t378 bt382.1 bt382.2.1 bt382.2.2)) else (laws_FnHops.j0 k t372 t373 true t376 t377 t378 bt382.1 bt382.2.1 bt382.2.2))) = some r := H
 have A5 := Aside0.mk A50; clear A50; replace H := Option.bind_eq_some_iff.mp H; obtain ⟨⟨t382, t383, t384⟩, A60, H⟩ := H
 replace H : (if t376 = t382 then (if t377 = t383 then ((laws_sameInts.f k t378 t384).bind fun t388 => (laws_FnHops.j0 k t372 t373 (!t388) t376 t377 t378 t382 t383 t384)) else (laws_FnHops.j0 k t372 t373 true t376 t377 t378 t382 t383 t384)) else (laws_FnHops.j0 k t372 t373 true t376 t377 t378 t382 t383 t384)) = some r := H
 have A6 := Aside0.mk A60; clear A60; have HC7 := Aside0.mk H; clear H
 go_enter Try.func4, Try.ntmps4
 go_upto_region 6 with (first | (go_at_call 18; (with_reducible refine (laws_big.calls _ _ l0 false _ ?side1 ?side2 A2.out).mono ?_); (case side1 => repeat (first | exact HR0.out | (with_reducible refine Kd.C_alloc ?_ _) | (with_reducible refine Kd.C_drewN ?_ _) | (with_reducible refine Kd.C_drew ?_))); (case side2 => exact HC0.out); rintro e w' ⟨rfl, ⟨nd, rfl⟩⟩; (try first | exact ⟨rfl, _, World.drewN_drewN _ _ _⟩ | exact ⟨rfl, _, Eq.trans (World.drewN_drewN _ _ _) (congrArg (World.drewN _) (Nat.add_assoc _ _ _))⟩)) | (go_at_call 19; (with_reducible refine (spec_DrawRoute7.calls k _ _ l0 t371 t372 t373 _ ?side1 ?side2 A4.out).mono ?_); (case side1 => repeat (first | exact HR0.out | (with_reducible refine Kd.C_alloc ?_ _) | (with_reducible refine Kd.C_drewN ?_ _) | (with_reducible refine Kd.C_drew ?_))); (case side2 => exact HC0.out); rintro e w8 ⟨v374, rfl, ho0, hb⟩; have HO375 := Aside0.mk (Kd.S_lower ho0 (below_size belowNow)); replace HB := Aside0.mk (below_step belowNow hb); (try clear hb); (try clear hb2); (try clear hk); (try clear hi); (try clear ho0); obtain ⟨Ao9, co9, eo9⟩ := Kd.S_slice HO375.out; subst eo9) | (go_at_call 12; (with_reducible refine (impl_Route7.calls k _ _ t371 t372 t373 t376 t377 t378 _ ?side1 ?side2 A5.out).mono ?_); (case side1 => repeat (first | exact (Kd.S_reads' HO375.out).2.2 | (with_reducible refine Kd.C_alloc ?_ _) | (with_reducible refine Kd.C_drewN ?_ _) | (with_reducible refine Kd.C_drew ?_))); (case side2 => exact (Kd.S_reads' HO375.out).2.1); rintro e w10 ⟨v379, rfl, ho0, hb⟩; replace HO375 := Aside0.mk (Kd.S_below (pS_ HO375.out) hb); have HO380 := Aside0.mk (Kd.R_lower ho0 (below_size belowNow)); replace HB := Aside0.mk (below_step belowNow hb); (try clear hb); (try clear hb2); (try clear hk); (try clear hi); (try clear ho0)) | ((with_reducible refine gate_dst (N := 6) rfl ?_); (try (refine gate_guard (by rfl) ?_; dsimp only)); refine box_event ?hg (N := 6) ?hd (cs := #[.int .i64 0, .int .i64 0, .slice none 0 0]) (t := 26) ?hr ?_; (case hd => rfl); (case hg => rfl); (case hr => first | (go_simp; done) | (go_simp; rfl)); intro gb381 hg w11 hbox hb; have n0_ := Aside0.mk (Kd.S_below (pS_ HO375.out) hb); have n1_ := Aside0.mk (Kd.R_below (pR_ HO380.out) hb); have n2_ := Aside0.mk (below_step belowNow hb); have n3_ := Aside0.mk (hbox); have n4_ := Aside0.mk ((by rw [hg]; exact (below_size belowNow) : w.heap.size ≤ gb381)); have n5_ := n4_; clear HO375; clear HO380; clear HB; have HO375 := n0_; have HO380 := n1_; have HB := n2_; have BK381 := n3_; have GW381 := n4_; have GE381 := n5_; clear n0_ n1_ n2_ n3_ n4_ n5_; clear hb hbox hg; have hcz12_0 := cz11_ BK381.out 0 rfl; have hcz12_1 := cz11_ BK381.out 1 rfl; have hcz12_2 := cz11_ BK381.out 2 rfl; have hfz12_0 := blk_frozen BK381.out 0; have hfz12_1 := blk_frozen BK381.out 1; have hfz12_2 := blk_frozen BK381.out 2; obtain ⟨Ao13, co13, eo13⟩ := Kd.R_slice HO380.out; subst eo13) | (go_at_call 10; (with_reducible refine (spec_Route7.calls k _ _ t371 t372 t373 t382 t383 t384 _ ?side1 ?side2 A6.out).mono ?_); (case side1 => refine (Kd.S_reads' (e := 43) (base := w.heap.size) (ok := fun k_ => True) (n := t371.length) (c := co9) ?_).2.2; exact (by (with_reducible repeat (first | apply Kd.S_alloc | apply Kd.S_drewN | apply Kd.S_drew)); exact (Kd.S_mono (Kd.S_far (p := ⟨gb381, 2, none⟩) (Kd.S_far (p := ⟨gb381, 1, none⟩) (Kd.S_far (p := ⟨gb381, 0, none⟩) (Kd.S_types HO375.out BK381.out (by decide)) (fun _ hk => hk.2) (.int .i64 t376)) (fun _ hk => hk.2) (.int .i64 t377)) (fun _ hk => hk.2) (.slice Ao13 t378.length co13)) (fun _ h_ => h_.1)))); (case side2 => exact (Kd.S_reads' HO375.out).2.1); rintro e w14 ⟨v385, rfl, ho0, hb⟩; have n0_ := Aside0.mk (Kd.S_below (by (with_reducible repeat (first | apply Kd.S_alloc | apply Kd.S_drewN | apply Kd.S_drew)); exact (Kd.S_mono (Kd.S_far (p := ⟨gb381, 2, none⟩) (Kd.S_far (p := ⟨gb381, 1, none⟩) (Kd.S_far (p := ⟨gb381, 0, none⟩) (Kd.S_types HO375.out BK381.out (by decide)) (fun _ hk => hk.2) (.int .i64 t376)) (fun _ hk => hk.2) (.int .i64 t377)) (fun _ hk => hk.2) (.slice Ao13 t378.length co13)) (fun _ h_ => h_.1))) hb); have n1_ := Aside0.mk (Kd.R_elder' (by (with_reducible repeat (first | apply Kd.R_alloc | apply Kd.R_drewN | apply Kd.R_drew)); exact (Kd.R_mono (Kd.R_far (p := ⟨gb381, 2, none⟩) (Kd.R_far (p := ⟨gb381, 1, none⟩) (Kd.R_far (p := ⟨gb381, 0, none⟩) (Kd.R_types HO380.out BK381.out (by decide)) (fun _ hk => hk.2) (.int .i64 t376)) (fun _ hk => hk.2) (.int .i64 t377)) (fun _ hk => hk.2) (.slice Ao13 t378.length co13)) (fun _ h_ => h_.1))) (Kd.R_base ho0) hb); have n2_ := Aside0.mk (Kd.R_lower (Kd.R_new' ho0 (Kd.R_lt (by (with_reducible repeat (first | apply Kd.R_alloc | apply Kd.R_drewN | apply Kd.R_drew)); exact (Kd.R_mono (Kd.R_far (p := ⟨gb381, 2, none⟩) (Kd.R_far (p := ⟨gb381, 1, none⟩) (Kd.R_far (p := ⟨gb381, 0, none⟩) (Kd.R_types HO380.out BK381.out (by decide)) (fun _ hk => hk.2) (.int .i64 t376)) (fun _ hk => hk.2) (.int .i64 t377)) (fun _ hk => hk.2) (.slice Ao13 t378.length co13)) (fun _ h_ => h_.1))))) (below_size belowNow)); have n3_ := Aside0.mk (blk_below (g := gb381) (o := .cells #[.int .i64 t376, .int .i64 t377, .slice Ao13 t378.length co13] 26 (0, 0)) (by (with_reducible repeat (first | refine blk_drewN ?_ _ | refine blk_drew ?_ | refine blk_alloc ?_ _)); refine blk_put (cs := #[.int .i64 t376, .int .i64 t377, .slice none 0 0]) ?_ 2 _ rfl; (with_reducible repeat (first | refine blk_drewN ?_ _ | refine blk_drew ?_ | refine blk_alloc ?_ _)); refine blk_put (cs := #[.int .i64 t376, .int .i64 0, .slice none 0 0]) ?_ 1 _ rfl; (with_reducible repeat (first | refine blk_drewN ?_ _ | refine blk_drew ?_ | refine blk_alloc ?_ _)); refine blk_put (cs := #[.int .i64 0, .int .i64 0, .slice none 0 0]) ?_ 0 _ rfl; (with_reducible repeat (first | refine blk_drewN ?_ _ | refine blk_drew ?_ | refine blk_alloc ?_ _)); exact BK381.out) hb); have n4_ := Aside0.mk (below_step belowNow hb); clear HO375; clear HO380; clear BK381; clear HB; have HO375 := n0_; have HO380 := n1_; have HO386 := n2_; have BK381 := n3_; have HB := n4_; clear n0_ n1_ n2_ n3_ n4_; (try clear hb); (try clear hb2); (try clear hk); (try clear hi); (try clear ho0)) | ((with_reducible refine gate_dst (N := 7) rfl ?_); (try (refine gate_guard (by rfl) ?_; dsimp only)); refine box_event ?hg (N := 7) ?hd (cs := #[.int .i64 0, .int .i64 0, .slice none 0 0]) (t := 26) ?hr ?_; (case hd => rfl); (case hg => rfl); (case hr => first | (go_simp; done) | (go_simp; rfl)); intro gb387 hg w15 hbox hb; have n0_ := Aside0.mk (Kd.S_below (pS_ HO375.out) hb); have n1_ := Aside0.mk (Kd.R_below (pR_ HO380.out) hb); have n2_ := Aside0.mk (Kd.R_below (pR_ HO386.out) hb); have n3_ := Aside0.mk (blkStep (g := gb381) hb); have n4_ := Aside0.mk (below_step belowNow hb); have n5_ := Aside0.mk (hbox); have n6_ := Aside0.mk ((by rw [hg]; exact (below_size belowNow) : w.heap.size ≤ gb387)); have n7_ := n6_; have n8_ := Aside0.mk ((by rw [hg]; exact Nat.ne_of_lt (blkLt (g := gb381)) : gb381 ≠ gb387)); have n9_ := Aside0.mk ((by rw [hg]; exact Nat.ne_of_gt (blkLt (g := gb381)) : gb387 ≠ gb381)); clear HO375; clear HO380; clear HO386; clear BK381; clear HB; have HO375 := n0_; have HO380 := n1_; have HO386 := n2_; have BK381 := n3_; have HB := n4_; have BK387 := n5_; have GW387 := n6_; have GE387 := n7_; have NB381_387 := n8_; have NB387_381 := n9_; clear n0_ n1_ n2_ n3_ n4_ n5_ n6_ n7_ n8_ n9_; clear hb hbox hg; have ⟨hnb16, hnc16⟩ := nn11_ NB387_381.out; have hcz17_0 := cz11_ BK387.out 0 rfl; have hcz17_1 := cz11_ BK387.out 1 rfl; have hcz17_2 := cz11_ BK387.out 2 rfl; have hfz17_0 := blk_frozen BK387.out 0; have hfz17_1 := blk_frozen BK387.out 1; have hfz17_2 := blk_frozen BK387.out 2; obtain ⟨Ao18, co18, eo18⟩ := Kd.R_slice HO386.out; subst eo18))
 repeat (go_quiet (first | (go_at_call 18; (with_reducible refine (laws_big.calls _ _ l0 false _ ?side1 ?side2 A2.out).mono ?_); (case side1 => repeat (first | exact HR0.out | (with_reducible refine Kd.C_alloc ?_ _) | (with_reducible refine Kd.C_drewN ?_ _) | (with_reducible refine Kd.C_drew ?_))); (case side2 => exact HC0.out); rintro e w' ⟨rfl, ⟨nd, rfl⟩⟩; (try first | exact ⟨rfl, _, World.drewN_drewN _ _ _⟩ | exact ⟨rfl, _, Eq.trans (World.drewN_drewN _ _ _) (congrArg (World.drewN _) (Nat.add_assoc _ _ _))⟩)) | (go_at_call 19; (with_reducible refine (spec_DrawRoute7.calls k _ _ l0 t371 t372 t373 _ ?side1 ?side2 A4.out).mono ?_); (case side1 => repeat (first | exact HR0.out | (with_reducible refine Kd.C_alloc ?_ _) | (with_reducible refine Kd.C_drewN ?_ _) | (with_reducible refine Kd.C_drew ?_))); (case side2 => exact HC0.out); rintro e w8 ⟨v374, rfl, ho0, hb⟩; have HO375 := Aside0.mk (Kd.S_lower ho0 (below_size belowNow)); replace HB := Aside0.mk (below_step belowNow hb); (try clear hb); (try clear hb2); (try clear hk); (try clear hi); (try clear ho0); obtain ⟨Ao9, co9, eo9⟩ := Kd.S_slice HO375.out; subst eo9) | (go_at_call 12; (with_reducible refine (impl_Route7.calls k _ _ t371 t372 t373 t376 t377 t378 _ ?side1 ?side2 A5.out).mono ?_); (case side1 => repeat (first | exact (Kd.S_reads' HO375.out).2.2 | (with_reducible refine Kd.C_alloc ?_ _) | (with_reducible refine Kd.C_drewN ?_ _) | (with_reducible refine Kd.C_drew ?_))); (case side2 => exact (Kd.S_reads' HO375.out).2.1); rintro e w10 ⟨v379, rfl, ho0, hb⟩; replace HO375 := Aside0.mk (Kd.S_below (pS_ HO375.out) hb); have HO380 := Aside0.mk (Kd.R_lower ho0 (below_size belowNow)); replace HB := Aside0.mk (below_step belowNow hb); (try clear hb); (try clear hb2); (try clear hk); (try clear hi); (try clear ho0)) | ((with_reducible refine gate_dst (N := 6) rfl ?_); (try (refine gate_guard (by rfl) ?_; dsimp only)); refine box_event ?hg (N := 6) ?hd (cs := #[.int .i64 0, .int .i64 0, .slice none 0 0]) (t := 26) ?hr ?_; (case hd => rfl); (case hg => rfl); (case hr => first | (go_simp; done) | (go_simp; rfl)); intro gb381 hg w11 hbox hb; have n0_ := Aside0.mk (Kd.S_below (pS_ HO375.out) hb); have n1_ := Aside0.mk (Kd.R_below (pR_ HO380.out) hb); have n2_ := Aside0.mk (below_step belowNow hb); have n3_ := Aside0.mk (hbox); have n4_ := Aside0.mk ((by rw [hg]; exact (below_size belowNow) : w.heap.size ≤ gb381)); have n5_ := n4_; clear HO375; clear HO380; clear HB; have HO375 := n0_; have HO380 := n1_; have HB := n2_; have BK381 := n3_; have GW381 := n4_; have GE381 := n5_; clear n0_ n1_ n2_ n3_ n4_ n5_; clear hb hbox hg; have hcz12_0 := cz11_ BK381.out 0 rfl; have hcz12_1 := cz11_ BK381.out 1 rfl; have hcz12_2 := cz11_ BK381.out 2 rfl; have hfz12_0 := blk_frozen BK381.out 0; have hfz12_1 := blk_frozen BK381.out 1; have hfz12_2 := blk_frozen BK381.out 2; obtain ⟨Ao13, co13, eo13⟩ := Kd.R_slice HO380.out; subst eo13) | (go_at_call 10; (with_reducible refine (spec_Route7.calls k _ _ t371 t372 t373 t382 t383 t384 _ ?side1 ?side2 A6.out).mono ?_); (case side1 => refine (Kd.S_reads' (e := 43) (base := w.heap.size) (ok := fun k_ => True) (n := t371.length) (c := co9) ?_).2.2; exact (by (with_reducible repeat (first | apply Kd.S_alloc | apply Kd.S_drewN | apply Kd.S_drew)); exact (Kd.S_mono (Kd.S_far (p := ⟨gb381, 2, none⟩) (Kd.S_far (p := ⟨gb381, 1, none⟩) (Kd.S_far (p := ⟨gb381, 0, none⟩) (Kd.S_types HO375.out BK381.out (by decide)) (fun _ hk => hk.2) (.int .i64 t376)) (fun _ hk => hk.2) (.int .i64 t377)) (fun _ hk => hk.2) (.slice Ao13 t378.length co13)) (fun _ h_ => h_.1)))); (case side2 => exact (Kd.S_reads' HO375.out).2.1); rintro e w14 ⟨v385, rfl, ho0, hb⟩; have n0_ := Aside0.mk (Kd.S_below (by (with_reducible repeat (first | apply Kd.S_alloc | apply Kd.S_drewN | apply Kd.S_drew)); exact (Kd.S_mono (Kd.S_far (p := ⟨gb381, 2, none⟩) (Kd.S_far (p := ⟨gb381, 1, none⟩) (Kd.S_far (p := ⟨gb381, 0, none⟩) (Kd.S_types HO375.out BK381.out (by decide)) (fun _ hk => hk.2) (.int .i64 t376)) (fun _ hk => hk.2) (.int .i64 t377)) (fun _ hk => hk.2) (.slice Ao13 t378.length co13)) (fun _ h_ => h_.1))) hb); have n1_ := Aside0.mk (Kd.R_elder' (by (with_reducible repeat (first | apply Kd.R_alloc | apply Kd.R_drewN | apply Kd.R_drew)); exact (Kd.R_mono (Kd.R_far (p := ⟨gb381, 2, none⟩) (Kd.R_far (p := ⟨gb381, 1, none⟩) (Kd.R_far (p := ⟨gb381, 0, none⟩) (Kd.R_types HO380.out BK381.out (by decide)) (fun _ hk => hk.2) (.int .i64 t376)) (fun _ hk => hk.2) (.int .i64 t377)) (fun _ hk => hk.2) (.slice Ao13 t378.length co13)) (fun _ h_ => h_.1))) (Kd.R_base ho0) hb); have n2_ := Aside0.mk (Kd.R_lower (Kd.R_new' ho0 (Kd.R_lt (by (with_reducible repeat (first | apply Kd.R_alloc | apply Kd.R_drewN | apply Kd.R_drew)); exact (Kd.R_mono (Kd.R_far (p := ⟨gb381, 2, none⟩) (Kd.R_far (p := ⟨gb381, 1, none⟩) (Kd.R_far (p := ⟨gb381, 0, none⟩) (Kd.R_types HO380.out BK381.out (by decide)) (fun _ hk => hk.2) (.int .i64 t376)) (fun _ hk => hk.2) (.int .i64 t377)) (fun _ hk => hk.2) (.slice Ao13 t378.length co13)) (fun _ h_ => h_.1))))) (below_size belowNow)); have n3_ := Aside0.mk (blk_below (g := gb381) (o := .cells #[.int .i64 t376, .int .i64 t377, .slice Ao13 t378.length co13] 26 (0, 0)) (by (with_reducible repeat (first | refine blk_drewN ?_ _ | refine blk_drew ?_ | refine blk_alloc ?_ _)); refine blk_put (cs := #[.int .i64 t376, .int .i64 t377, .slice none 0 0]) ?_ 2 _ rfl; (with_reducible repeat (first | refine blk_drewN ?_ _ | refine blk_drew ?_ | refine blk_alloc ?_ _)); refine blk_put (cs := #[.int .i64 t376, .int .i64 0, .slice none 0 0]) ?_ 1 _ rfl; (with_reducible repeat (first | refine blk_drewN ?_ _ | refine blk_drew ?_ | refine blk_alloc ?_ _)); refine blk_put (cs := #[.int .i64 0, .int .i64 0, .slice none 0 0]) ?_ 0 _ rfl; (with_reducible repeat (first | refine blk_drewN ?_ _ | refine blk_drew ?_ | refine blk_alloc ?_ _)); exact BK381.out) hb); have n4_ := Aside0.mk (below_step belowNow hb); clear HO375; clear HO380; clear BK381; clear HB; have HO375 := n0_; have HO380 := n1_; have HO386 := n2_; have BK381 := n3_; have HB := n4_; clear n0_ n1_ n2_ n3_ n4_; (try clear hb); (try clear hb2); (try clear hk); (try clear hi); (try clear ho0)) | ((with_reducible refine gate_dst (N := 7) rfl ?_); (try (refine gate_guard (by rfl) ?_; dsimp only)); refine box_event ?hg (N := 7) ?hd (cs := #[.int .i64 0, .int .i64 0, .slice none 0 0]) (t := 26) ?hr ?_; (case hd => rfl); (case hg => rfl); (case hr => first | (go_simp; done) | (go_simp; rfl)); intro gb387 hg w15 hbox hb; have n0_ := Aside0.mk (Kd.S_below (pS_ HO375.out) hb); have n1_ := Aside0.mk (Kd.R_below (pR_ HO380.out) hb); have n2_ := Aside0.mk (Kd.R_below (pR_ HO386.out) hb); have n3_ := Aside0.mk (blkStep (g := gb381) hb); have n4_ := Aside0.mk (below_step belowNow hb); have n5_ := Aside0.mk (hbox); have n6_ := Aside0.mk ((by rw [hg]; exact (below_size belowNow) : w.heap.size ≤ gb387)); have n7_ := n6_; have n8_ := Aside0.mk ((by rw [hg]; exact Nat.ne_of_lt (blkLt (g := gb381)) : gb381 ≠ gb387)); have n9_ := Aside0.mk ((by rw [hg]; exact Nat.ne_of_gt (blkLt (g := gb381)) : gb387 ≠ gb381)); clear HO375; clear HO380; clear HO386; clear BK381; clear HB; have HO375 := n0_; have HO380 := n1_; have HO386 := n2_; have BK381 := n3_; have HB := n4_; have BK387 := n5_; have GW387 := n6_; have GE387 := n7_; have NB381_387 := n8_; have NB387_381 := n9_; clear n0_ n1_ n2_ n3_ n4_ n5_ n6_ n7_ n8_ n9_; clear hb hbox hg; have ⟨hnb16, hnc16⟩ := nn11_ NB387_381.out; have hcz17_0 := cz11_ BK387.out 0 rfl; have hcz17_1 := cz11_ BK387.out 1 rfl; have hcz17_2 := cz11_ BK387.out 2 rfl; have hfz17_0 := blk_frozen BK387.out 0; have hfz17_1 := blk_frozen BK387.out 1; have hfz17_2 := blk_frozen BK387.out 2; obtain ⟨Ao18, co18, eo18⟩ := Kd.R_slice HO386.out; subst eo18)); go_upto_region 6 with (first | (go_at_call 18; (with_reducible refine (laws_big.calls _ _ l0 false _ ?side1 ?side2 A2.out).mono ?_); (case side1 => repeat (first | exact HR0.out | (with_reducible refine Kd.C_alloc ?_ _) | (with_reducible refine Kd.C_drewN ?_ _) | (with_reducible refine Kd.C_drew ?_))); (case side2 => exact HC0.out); rintro e w' ⟨rfl, ⟨nd, rfl⟩⟩; (try first | exact ⟨rfl, _, World.drewN_drewN _ _ _⟩ | exact ⟨rfl, _, Eq.trans (World.drewN_drewN _ _ _) (congrArg (World.drewN _) (Nat.add_assoc _ _ _))⟩)) | (go_at_call 19; (with_reducible refine (spec_DrawRoute7.calls k _ _ l0 t371 t372 t373 _ ?side1 ?side2 A4.out).mono ?_); (case side1 => repeat (first | exact HR0.out | (with_reducible refine Kd.C_alloc ?_ _) | (with_reducible refine Kd.C_drewN ?_ _) | (with_reducible refine Kd.C_drew ?_))); (case side2 => exact HC0.out); rintro e w8 ⟨v374, rfl, ho0, hb⟩; have HO375 := Aside0.mk (Kd.S_lower ho0 (below_size belowNow)); replace HB := Aside0.mk (below_step belowNow hb); (try clear hb); (try clear hb2); (try clear hk); (try clear hi); (try clear ho0); obtain ⟨Ao9, co9, eo9⟩ := Kd.S_slice HO375.out; subst eo9) | (go_at_call 12; (with_reducible refine (impl_Route7.calls k _ _ t371 t372 t373 t376 t377 t378 _ ?side1 ?side2 A5.out).mono ?_); (case side1 => repeat (first | exact (Kd.S_reads' HO375.out).2.2 | (with_reducible refine Kd.C_alloc ?_ _) | (with_reducible refine Kd.C_drewN ?_ _) | (with_reducible refine Kd.C_drew ?_))); (case side2 => exact (Kd.S_reads' HO375.out).2.1); rintro e w10 ⟨v379, rfl, ho0, hb⟩; replace HO375 := Aside0.mk (Kd.S_below (pS_ HO375.out) hb); have HO380 := Aside0.mk (Kd.R_lower ho0 (below_size belowNow)); replace HB := Aside0.mk (below_step belowNow hb); (try clear hb); (try clear hb2); (try clear hk); (try clear hi); (try clear ho0)) | ((with_reducible refine gate_dst (N := 6) rfl ?_); (try (refine gate_guard (by rfl) ?_; dsimp only)); refine box_event ?hg (N := 6) ?hd (cs := #[.int .i64 0, .int .i64 0, .slice none 0 0]) (t := 26) ?hr ?_; (case hd => rfl); (case hg => rfl); (case hr => first | (go_simp; done) | (go_simp; rfl)); intro gb381 hg w11 hbox hb; have n0_ := Aside0.mk (Kd.S_below (pS_ HO375.out) hb); have n1_ := Aside0.mk (Kd.R_below (pR_ HO380.out) hb); have n2_ := Aside0.mk (below_step belowNow hb); have n3_ := Aside0.mk (hbox); have n4_ := Aside0.mk ((by rw [hg]; exact (below_size belowNow) : w.heap.size ≤ gb381)); have n5_ := n4_; clear HO375; clear HO380; clear HB; have HO375 := n0_; have HO380 := n1_; have HB := n2_; have BK381 := n3_; have GW381 := n4_; have GE381 := n5_; clear n0_ n1_ n2_ n3_ n4_ n5_; clear hb hbox hg; have hcz12_0 := cz11_ BK381.out 0 rfl; have hcz12_1 := cz11_ BK381.out 1 rfl; have hcz12_2 := cz11_ BK381.out 2 rfl; have hfz12_0 := blk_frozen BK381.out 0; have hfz12_1 := blk_frozen BK381.out 1; have hfz12_2 := blk_frozen BK381.out 2; obtain ⟨Ao13, co13, eo13⟩ := Kd.R_slice HO380.out; subst eo13) | (go_at_call 10; (with_reducible refine (spec_Route7.calls k _ _ t371 t372 t373 t382 t383 t384 _ ?side1 ?side2 A6.out).mono ?_); (case side1 => refine (Kd.S_reads' (e := 43) (base := w.heap.size) (ok := fun k_ => True) (n := t371.length) (c := co9) ?_).2.2; exact (by (with_reducible repeat (first | apply Kd.S_alloc | apply Kd.S_drewN | apply Kd.S_drew)); exact (Kd.S_mono (Kd.S_far (p := ⟨gb381, 2, none⟩) (Kd.S_far (p := ⟨gb381, 1, none⟩) (Kd.S_far (p := ⟨gb381, 0, none⟩) (Kd.S_types HO375.out BK381.out (by decide)) (fun _ hk => hk.2) (.int .i64 t376)) (fun _ hk => hk.2) (.int .i64 t377)) (fun _ hk => hk.2) (.slice Ao13 t378.length co13)) (fun _ h_ => h_.1)))); (case side2 => exact (Kd.S_reads' HO375.out).2.1); rintro e w14 ⟨v385, rfl, ho0, hb⟩; have n0_ := Aside0.mk (Kd.S_below (by (with_reducible repeat (first | apply Kd.S_alloc | apply Kd.S_drewN | apply Kd.S_drew)); exact (Kd.S_mono (Kd.S_far (p := ⟨gb381, 2, none⟩) (Kd.S_far (p := ⟨gb381, 1, none⟩) (Kd.S_far (p := ⟨gb381, 0, none⟩) (Kd.S_types HO375.out BK381.out (by decide)) (fun _ hk => hk.2) (.int .i64 t376)) (fun _ hk => hk.2) (.int .i64 t377)) (fun _ hk => hk.2) (.slice Ao13 t378.length co13)) (fun _ h_ => h_.1))) hb); have n1_ := Aside0.mk (Kd.R_elder' (by (with_reducible repeat (first | apply Kd.R_alloc | apply Kd.R_drewN | apply Kd.R_drew)); exact (Kd.R_mono (Kd.R_far (p := ⟨gb381, 2, none⟩) (Kd.R_far (p := ⟨gb381, 1, none⟩) (Kd.R_far (p := ⟨gb381, 0, none⟩) (Kd.R_types HO380.out BK381.out (by decide)) (fun _ hk => hk.2) (.int .i64 t376)) (fun _ hk => hk.2) (.int .i64 t377)) (fun _ hk => hk.2) (.slice Ao13 t378.length co13)) (fun _ h_ => h_.1))) (Kd.R_base ho0) hb); have n2_ := Aside0.mk (Kd.R_lower (Kd.R_new' ho0 (Kd.R_lt (by (with_reducible repeat (first | apply Kd.R_alloc | apply Kd.R_drewN | apply Kd.R_drew)); exact (Kd.R_mono (Kd.R_far (p := ⟨gb381, 2, none⟩) (Kd.R_far (p := ⟨gb381, 1, none⟩) (Kd.R_far (p := ⟨gb381, 0, none⟩) (Kd.R_types HO380.out BK381.out (by decide)) (fun _ hk => hk.2) (.int .i64 t376)) (fun _ hk => hk.2) (.int .i64 t377)) (fun _ hk => hk.2) (.slice Ao13 t378.length co13)) (fun _ h_ => h_.1))))) (below_size belowNow)); have n3_ := Aside0.mk (blk_below (g := gb381) (o := .cells #[.int .i64 t376, .int .i64 t377, .slice Ao13 t378.length co13] 26 (0, 0)) (by (with_reducible repeat (first | refine blk_drewN ?_ _ | refine blk_drew ?_ | refine blk_alloc ?_ _)); refine blk_put (cs := #[.int .i64 t376, .int .i64 t377, .slice none 0 0]) ?_ 2 _ rfl; (with_reducible repeat (first | refine blk_drewN ?_ _ | refine blk_drew ?_ | refine blk_alloc ?_ _)); refine blk_put (cs := #[.int .i64 t376, .int .i64 0, .slice none 0 0]) ?_ 1 _ rfl; (with_reducible repeat (first | refine blk_drewN ?_ _ | refine blk_drew ?_ | refine blk_alloc ?_ _)); refine blk_put (cs := #[.int .i64 0, .int .i64 0, .slice none 0 0]) ?_ 0 _ rfl; (with_reducible repeat (first | refine blk_drewN ?_ _ | refine blk_drew ?_ | refine blk_alloc ?_ _)); exact BK381.out) hb); have n4_ := Aside0.mk (below_step belowNow hb); clear HO375; clear HO380; clear BK381; clear HB; have HO375 := n0_; have HO380 := n1_; have HO386 := n2_; have BK381 := n3_; have HB := n4_; clear n0_ n1_ n2_ n3_ n4_; (try clear hb); (try clear hb2); (try clear hk); (try clear hi); (try clear ho0)) | ((with_reducible refine gate_dst (N := 7) rfl ?_); (try (refine gate_guard (by rfl) ?_; dsimp only)); refine box_event ?hg (N := 7) ?hd (cs := #[.int .i64 0, .int .i64 0, .slice none 0 0]) (t := 26) ?hr ?_; (case hd => rfl); (case hg => rfl); (case hr => first | (go_simp; done) | (go_simp; rfl)); intro gb387 hg w15 hbox hb; have n0_ := Aside0.mk (Kd.S_below (pS_ HO375.out) hb); have n1_ := Aside0.mk (Kd.R_below (pR_ HO380.out) hb); have n2_ := Aside0.mk (Kd.R_below (pR_ HO386.out) hb); have n3_ := Aside0.mk (blkStep (g := gb381) hb); have n4_ := Aside0.mk (below_step belowNow hb); have n5_ := Aside0.mk (hbox); have n6_ := Aside0.mk ((by rw [hg]; exact (below_size belowNow) : w.heap.size ≤ gb387)); have n7_ := n6_; have n8_ := Aside0.mk ((by rw [hg]; exact Nat.ne_of_lt (blkLt (g := gb381)) : gb381 ≠ gb387)); have n9_ := Aside0.mk ((by rw [hg]; exact Nat.ne_of_gt (blkLt (g := gb381)) : gb387 ≠ gb381)); clear HO375; clear HO380; clear HO386; clear BK381; clear HB; have HO375 := n0_; have HO380 := n1_; have HO386 := n2_; have BK381 := n3_; have HB := n4_; have BK387 := n5_; have GW387 := n6_; have GE387 := n7_; have NB381_387 := n8_; have NB387_381 := n9_; clear n0_ n1_ n2_ n3_ n4_ n5_ n6_ n7_ n8_ n9_; clear hb hbox hg; have ⟨hnb16, hnc16⟩ := nn11_ NB387_381.out; have hcz17_0 := cz11_ BK387.out 0 rfl; have hcz17_1 := cz11_ BK387.out 1 rfl; have hcz17_2 := cz11_ BK387.out 2 rfl; have hfz17_0 := blk_frozen BK387.out 0; have hfz17_1 := blk_frozen BK387.out 1; have hfz17_2 := blk_frozen BK387.out 2; obtain ⟨Ao18, co18, eo18⟩ := Kd.R_slice HO386.out; subst eo18)))
 (try simp only [Act.put, List.setIfInBounds_toArray, List.set_cons_zero, List.set_cons_succ])
 go_cut [44] (fun v44 wc => ∃ (kq : Nat) (x44_6 : Bool), v44 = .bool x44_6 ∧ Aside0 (laws_FnHops.j0 kq t372 t373 x44_6 t376 t377 t378 t382 t383 t384 = some r) ∧ Aside0 (kq ≤ k) ∧ Aside0 (Kd.R (Kd.int .i64) 3 wc w.heap.size (fun k_ => some k_ ≠ ((.slice Ao18 t384.length co18) : Value).ownBlock) (.slice Ao13 t378.length co13) t378) ∧ Aside0 (Kd.R (Kd.int .i64) 3 wc w.heap.size (fun k_ => some k_ ≠ ((.slice Ao13 t378.length co13) : Value).ownBlock) (.slice Ao18 t384.length co18) t384) ∧ Aside0 (wc.heap[gb381]? = some (.cells #[.int .i64 t376, .int .i64 t377, (.slice Ao13 t378.length co13)] 26 (0, 0))) ∧ Aside0 (wc.heap[gb387]? = some (.cells #[.int .i64 t382, .int .i64 t383, (.slice Ao18 t384.length co18)] 26 (0, 0))) ∧ Aside0 (Below w.heap.size w wc))
 case first =>
  have H := HC7.out; clear HC7
  by_cases c19 : t376 = t382
  case neg =>
   rw [if_neg c19] at H; have c19b0 : (t376 == t382) = false := beq_eq_false_iff_ne.mpr c19; have c19b1 : (t376 != t382) = true := bne_iff_ne.mpr c19
   (first | rw [c19b0] | (simp only [i64_w, i32_w]; rw [c19b0]) | (rw [c19b2]; try simp only [Bool.not_false, Bool.not_true]) | skip)
   have H' := Aside0.mk H
   clear H; have ⟨hnb28, hnc28⟩ := nn11_ NB381_387.out; have hcz29_0 := cz11_ BK381.out 0 rfl; have hcz29_1 := cz11_ BK381.out 1 rfl; have hcz29_2 := cz11_ BK381.out 2 rfl; have hfz29_0 := blk_frozen BK381.out 0; have hfz29_1 := blk_frozen BK381.out 1; have hfz29_2 := blk_frozen BK381.out 2; have hcz30_0 := cz11_ BK387.out 0 rfl; have hcz30_1 := cz11_ BK387.out 1 rfl; have hcz30_2 := cz11_ BK387.out 2 rfl; have hfz30_0 := blk_frozen BK387.out 0; have hfz30_1 := blk_frozen BK387.out 1; have hfz30_2 := blk_frozen BK387.out 2
   go_wp2
   repeat (go_quiet (fail); try go_wp2)
   go_meet
   case rel => exact ⟨_, (true), (by first | rfl | (simp; done) | (simp [*]; done)), H', ⟨by first | omega | exact Nat.le_refl _⟩, ⟨by (with_reducible repeat (first | apply Kd.R_alloc | apply Kd.R_drewN | apply Kd.R_drew)); exact Kd.R_mono (Kd.R_far (p := ⟨gb387, 2, none⟩) (Kd.R_far (p := ⟨gb387, 1, none⟩) (Kd.R_far (p := ⟨gb387, 0, none⟩) (Kd.R_types HO380.out BK387.out (by decide)) (fun _ hk => hk.2) (.int .i64 t382)) (fun _ hk => hk.2) (.int .i64 t383)) (fun _ hk => hk.2) (.slice Ao18 t384.length co18)) (fun _ hk => hk.1.2)⟩, ⟨by (with_reducible repeat (first | apply Kd.R_alloc | apply Kd.R_drewN | apply Kd.R_drew)); exact Kd.R_mono (Kd.R_far (p := ⟨gb387, 2, none⟩) (Kd.R_far (p := ⟨gb387, 1, none⟩) (Kd.R_far (p := ⟨gb387, 0, none⟩) (Kd.R_types HO386.out BK387.out (by decide)) (fun _ hk => hk.2) (.int .i64 t382)) (fun _ hk => hk.2) (.int .i64 t383)) (fun _ hk => hk.2) (.slice Ao18 t384.length co18)) (fun _ hk => hk.1.2)⟩, ⟨blkFars⟩, ⟨by (with_reducible repeat (first | refine blk_drewN ?_ _ | refine blk_drew ?_ | refine blk_alloc ?_ _)); refine blk_put (cs := #[.int .i64 t382, .int .i64 t383, .slice none 0 0]) ?_ 2 _ rfl; (with_reducible repeat (first | refine blk_drewN ?_ _ | refine blk_drew ?_ | refine blk_alloc ?_ _)); refine blk_put (cs := #[.int .i64 t382, .int .i64 0, .slice none 0 0]) ?_ 1 _ rfl; (with_reducible repeat (first | refine blk_drewN ?_ _ | refine blk_drew ?_ | refine blk_alloc ?_ _)); refine blk_put (cs := #[.int .i64 0, .int .i64 0, .slice none 0 0]) ?_ 0 _ rfl; (with_reducible repeat (first | refine blk_drewN ?_ _ | refine blk_drew ?_ | refine blk_alloc ?_ _)); exact BK387.out⟩, ⟨belowNow⟩⟩
  rw [if_pos c19] at H; have c19b0 : (t376 == t382) = true := beq_iff_eq.mpr c19; have c19b1 : (t376 != t382) = false := bne_eq_false_iff_eq.mpr c19; clear c19
  (first | rw [c19b0] | (simp only [i64_w, i32_w]; rw [c19b0]) | (rw [c19b2]; try simp only [Bool.not_false, Bool.not_true]) | skip)
  by_cases c20 : t377 = t383
  case neg =>
   rw [if_neg c20] at H; have c20b0 : (t377 == t383) = false := beq_eq_false_iff_ne.mpr c20; have c20b1 : (t377 != t383) = true := bne_iff_ne.mpr c20
   have H' := Aside0.mk H
   clear H; have ⟨hnb25, hnc25⟩ := nn11_ NB381_387.out; have hcz26_0 := cz11_ BK381.out 0 rfl; have hcz26_1 := cz11_ BK381.out 1 rfl; have hcz26_2 := cz11_ BK381.out 2 rfl; have hfz26_0 := blk_frozen BK381.out 0; have hfz26_1 := blk_frozen BK381.out 1; have hfz26_2 := blk_frozen BK381.out 2; have hcz27_0 := cz11_ BK387.out 0 rfl; have hcz27_1 := cz11_ BK387.out 1 rfl; have hcz27_2 := cz11_ BK387.out 2 rfl; have hfz27_0 := blk_frozen BK387.out 0; have hfz27_1 := blk_frozen BK387.out 1; have hfz27_2 := blk_frozen BK387.out 2
   go_wp2
   repeat (go_quiet (fail); try go_wp2)
   go_meet
   case rel => exact ⟨_, (true), (by first | rfl | (simp; done) | (simp [*]; done)), H', ⟨by first | omega | exact Nat.le_refl _⟩, ⟨by (with_reducible repeat (first | apply Kd.R_alloc | apply Kd.R_drewN | apply Kd.R_drew)); exact Kd.R_mono (Kd.R_far (p := ⟨gb387, 2, none⟩) (Kd.R_far (p := ⟨gb387, 1, none⟩) (Kd.R_far (p := ⟨gb387, 0, none⟩) (Kd.R_types HO380.out BK387.out (by decide)) (fun _ hk => hk.2) (.int .i64 t382)) (fun _ hk => hk.2) (.int .i64 t383)) (fun _ hk => hk.2) (.slice Ao18 t384.length co18)) (fun _ hk => hk.1.2)⟩, ⟨by (with_reducible repeat (first | apply Kd.R_alloc | apply Kd.R_drewN | apply Kd.R_drew)); exact Kd.R_mono (Kd.R_far (p := ⟨gb387, 2, none⟩) (Kd.R_far (p := ⟨gb387, 1, none⟩) (Kd.R_far (p := ⟨gb387, 0, none⟩) (Kd.R_types HO386.out BK387.out (by decide)) (fun _ hk => hk.2) (.int .i64 t382)) (fun _ hk => hk.2) (.int .i64 t383)) (fun _ hk => hk.2) (.slice Ao18 t384.length co18)) (fun _ hk => hk.1.2)⟩, ⟨blkFars⟩, ⟨by (with_reducible repeat (first | refine blk_drewN ?_ _ | refine blk_drew ?_ | refine blk_alloc ?_ _)); refine blk_put (cs := #[.int .i64 t382, .int .i64 t383, .slice none 0 0]) ?_ 2 _ rfl; (with_reducible repeat (first | refine blk_drewN ?_ _ | refine blk_drew ?_ | refine blk_alloc ?_ _)); refine blk_put (cs := #[.int .i64 t382, .int .i64 0, .slice none 0 0]) ?_ 1 _ rfl; (with_reducible repeat (first | refine blk_drewN ?_ _ | refine blk_drew ?_ | refine blk_alloc ?_ _)); refine blk_put (cs := #[.int .i64 0, .int .i64 0, .slice none 0 0]) ?_ 0 _ rfl; (with_reducible repeat (first | refine blk_drewN ?_ _ | refine blk_drew ?_ | refine blk_alloc ?_ _)); exact BK387.out⟩, ⟨belowNow⟩⟩
  rw [if_pos c20] at H; have c20b0 : (t377 == t383) = true := beq_iff_eq.mpr c20; have c20b1 : (t377 != t383) = false := bne_eq_false_iff_eq.mpr c20; clear c20; replace H := Option.bind_eq_some_iff.mp H; obtain ⟨t388, A210, H⟩ := H
  replace H : (laws_FnHops.j0 k t372 t373 (!t388) t376 t377 t378 t382 t383 t384) = some r := H
  have A21 := Aside0.mk A210; clear A210
  have H' := Aside0.mk H
  clear H; have ⟨hnb22, hnc22⟩ := nn11_ NB381_387.out; have hcz23_0 := cz11_ BK381.out 0 rfl; have hcz23_1 := cz11_ BK381.out 1 rfl; have hcz23_2 := cz11_ BK381.out 2 rfl; have hfz23_0 := blk_frozen BK381.out 0; have hfz23_1 := blk_frozen BK381.out 1; have hfz23_2 := blk_frozen BK381.out 2; have hcz24_0 := cz11_ BK387.out 0 rfl; have hcz24_1 := cz11_ BK387.out 1 rfl; have hcz24_2 := cz11_ BK387.out 2 rfl; have hfz24_0 := blk_frozen BK387.out 0; have hfz24_1 := blk_frozen BK387.out 1; have hfz24_2 := blk_frozen BK387.out 2
  go_wp2_with (first | (go_at_call 20; (with_reducible refine (laws_sameInts.calls k _ _ t378 _ _ t384 t388 _ ?side1 ?side2 ?side3 ?side4 A21.out).mono ?_); (case side1 => refine (Kd.R_reads' (e := 3) (base := w.heap.size) (ok := fun k_ => (True ∧ some k_ ≠ (.slice Ao18 t384.length co18 : Value).ownBlock)) (n := t378.length) (c := co13) ?_).2.2; exact (by (with_reducible repeat (first | apply Kd.R_alloc | apply Kd.R_drewN | apply Kd.R_drew)); exact (Kd.R_mono (Kd.R_far (p := ⟨gb387, 2, none⟩) (Kd.R_far (p := ⟨gb387, 1, none⟩) (Kd.R_far (p := ⟨gb387, 0, none⟩) (Kd.R_types HO380.out BK387.out (by decide)) (fun _ hk => hk.2) (.int .i64 t382)) (fun _ hk => hk.2) (.int .i64 t383)) (fun _ hk => hk.2) (.slice Ao18 t384.length co18)) (fun _ h_ => h_.1)))); (case side2 => exact (Kd.R_reads' HO380.out).2.1); (case side3 => refine (Kd.R_reads' (e := 3) (base := w.heap.size) (ok := fun k_ => (True ∧ some k_ ≠ (.slice Ao13 t378.length co13 : Value).ownBlock)) (n := t384.length) (c := co18) ?_).2.2; exact (by (with_reducible repeat (first | apply Kd.R_alloc | apply Kd.R_drewN | apply Kd.R_drew)); exact (Kd.R_mono (Kd.R_far (p := ⟨gb387, 2, none⟩) (Kd.R_far (p := ⟨gb387, 1, none⟩) (Kd.R_far (p := ⟨gb387, 0, none⟩) (Kd.R_types HO386.out BK387.out (by decide)) (fun _ hk => hk.2) (.int .i64 t382)) (fun _ hk => hk.2) (.int .i64 t383)) (fun _ hk => hk.2) (.slice Ao18 t384.length co18)) (fun _ h_ => h_.1)))); (case side4 => exact (Kd.R_reads' HO386.out).2.1); rintro e w' ⟨rfl, ⟨nd, rfl⟩⟩; (try first | exact ⟨rfl, _, World.drewN_drewN _ _ _⟩ | exact ⟨rfl, _, Eq.trans (World.drewN_drewN _ _ _) (congrArg (World.drewN _) (Nat.add_assoc _ _ _))⟩)) | ((with_reducible refine wp_region_quiet_lit ?qm ?qb ?_); (case qm => kernel_rfl); (case qb => kernel_rfl)) | ((with_reducible refine wpQuiet_step ?_); intro K hK; go_simp; first | (refine hK _ ?_; clear hK K) | (apply Exists.intro; refine ⟨fun _ => ?_, hK _ ?_⟩; rotate_left; (try clear hK K); rotate_right)) | ((with_reducible refine wpQuiet_nil ?_); intro _ hw'; obtain ⟨nq, hw''⟩ := hw'; subst hw''))
  go_meet
  case rel => exact ⟨_, (!t388), (by first | rfl | (simp; done) | (simp [*]; done)), H', ⟨by first | omega | exact Nat.le_refl _⟩, ⟨by (with_reducible repeat (first | apply Kd.R_alloc | apply Kd.R_drewN | apply Kd.R_drew)); exact Kd.R_mono (Kd.R_far (p := ⟨gb387, 2, none⟩) (Kd.R_far (p := ⟨gb387, 1, none⟩) (Kd.R_far (p := ⟨gb387, 0, none⟩) (Kd.R_types HO380.out BK387.out (by decide)) (fun _ hk => hk.2) (.int .i64 t382)) (fun _ hk => hk.2) (.int .i64 t383)) (fun _ hk => hk.2) (.slice Ao18 t384.length co18)) (fun _ hk => hk.1.2)⟩, ⟨by (with_reducible repeat (first | apply Kd.R_alloc | apply Kd.R_drewN | apply Kd.R_drew)); exact Kd.R_mono (Kd.R_far (p := ⟨gb387, 2, none⟩) (Kd.R_far (p := ⟨gb387, 1, none⟩) (Kd.R_far (p := ⟨gb387, 0, none⟩) (Kd.R_types HO386.out BK387.out (by decide)) (fun _ hk => hk.2) (.int .i64 t382)) (fun _ hk => hk.2) (.int .i64 t383)) (fun _ hk => hk.2) (.slice Ao18 t384.length co18)) (fun _ hk => hk.1.2)⟩, ⟨blkFars⟩, ⟨by (with_reducible repeat (first | refine blk_drewN ?_ _ | refine blk_drew ?_ | refine blk_alloc ?_ _)); refine blk_put (cs := #[.int .i64 t382, .int .i64 t383, .slice none 0 0]) ?_ 2 _ rfl; (with_reducible repeat (first | refine blk_drewN ?_ _ | refine blk_drew ?_ | refine blk_alloc ?_ _)); refine blk_put (cs := #[.int .i64 t382, .int .i64 0, .slice none 0 0]) ?_ 1 _ rfl; (with_reducible repeat (first | refine blk_drewN ?_ _ | refine blk_drew ?_ | refine blk_alloc ?_ _)); refine blk_put (cs := #[.int .i64 0, .int .i64 0, .slice none 0 0]) ?_ 0 _ rfl; (with_reducible repeat (first | refine blk_drewN ?_ _ | refine blk_drew ?_ | refine blk_alloc ?_ _)); exact BK387.out⟩, ⟨belowNow⟩⟩
 case rest =>
  clear HC7; (try clear c1); (try clear c2); (try clear p2); (try clear c3); (try clear c4); (try clear c16); (try clear c19); (try clear c19b0); (try clear c19b1); (try clear c20); (try clear c20b0); (try clear c20b1); (try clear c22); (try clear c25); (try clear c28); (try clear hcz12_0 hcz12_1 hcz12_2); (try clear hcz17_0 hcz17_1 hcz17_2); (try clear hcz23_0 hcz23_1 hcz23_2); (try clear hcz24_0 hcz24_1 hcz24_2); (try clear hcz26_0 hcz26_1 hcz26_2); (try clear hcz27_0 hcz27_1 hcz27_2); (try clear hcz29_0 hcz29_1 hcz29_2); (try clear hcz30_0 hcz30_1 hcz30_2); (try clear hfz12_0 hfz12_1 hfz12_2); (try clear hfz17_0 hfz17_1 hfz17_2); (try clear hfz23_0 hfz23_1 hfz23_2); (try clear hfz24_0 hfz24_1 hfz24_2); (try clear hfz26_0 hfz26_1 hfz26_2); (try clear hfz27_0 hfz27_1 hfz27_2); (try clear hfz29_0 hfz29_1 hfz29_2); (try clear hfz30_0 hfz30_1 hfz30_2); obtain ⟨kq, x44_6, rfl, HA, HJ6, HO_382002, HO_388002, BK381, BK387, HB⟩ := hcut
  cases kq with
  | zero => exact absurd HA.out (by simp [laws_FnHops.j0])
  | succ kj6 =>
   have H := HA.out; clear HA; simp only [laws_FnHops.j0] at H
   by_cases c31 : x44_6 = true
   case pos =>
    subst c31
    have H1 : (some false) = some r := by rw [if_pos rfl] at H; exact H
    clear H; have H := H1; clear H1; obtain rfl := Option.some.inj H
    go_wp2
    repeat (go_quiet (fail); try go_wp2)
    go_ret
    exact ⟨by first | rfl | (simp [errW_none, errW_some] <;> rfl) | (simp [*, errW_none, errW_some] <;> rfl), belowNow⟩
   replace c31 := Bool.eq_false_iff.mpr c31; subst c31
   have H1 : ((impl_Route7.f kj6 (List.replicate 2 z43) 0 1).bind fun bt392 => (if bt392.1 = 1 then (if t382 = 8 then (laws_FnHops.j1 kj6 t372 t373 true t376 t377 t378) else (laws_FnHops.j1 kj6 t372 t373 (t382 == 5) t376 t377 t378)) else (some false))) = some r := by rw [if_neg (show ¬ (false = true) by decide)] at H; exact H
   clear H; have H := H1; clear H1; obtain ⟨y389, hy389⟩ : ∃ y_ : List (S43), y_ = (List.replicate 2 z43) := ⟨_, rfl⟩
   replace H : ((impl_Route7.f kj6 y389 0 1).bind fun bt392 => (if bt392.1 = 1 then (if t382 = 8 then (laws_FnHops.j1 kj6 t372 t373 true t376 t377 t378) else (laws_FnHops.j1 kj6 t372 t373 (t382 == 5) t376 t377 t378)) else (some false))) = some r := by first | (rw [hy389]; with_reducible exact H) | (have H2_ := (Option.bind_some _ _).symm.trans H; rw [hy389]; with_reducible exact H2_) | (have H2_ := (Option.bind_some _ _).symm.trans H; with_reducible exact H2_) | with_reducible exact H | (rw [hy389]; exact H) | exact H
   have Ny389 := Aside0.mk hy389; clear hy389; replace H := Option.bind_eq_some_iff.mp H; obtain ⟨⟨t392, t393, t394⟩, A320, H⟩ := H
   replace H : (if t392 = 1 then (if t382 = 8 then (laws_FnHops.j1 kj6 t372 t373 true t376 t377 t378) else (laws_FnHops.j1 kj6 t372 t373 (t382 == 5) t376 t377 t378)) else (some false)) = some r := H
   have A32 := Aside0.mk A320; clear A320
   by_cases c33 : t392 = 1
   case neg =>
    rw [if_neg c33] at H; have c33b0 : (t392 == 1) = false := beq_eq_false_iff_ne.mpr c33; have c33b1 : (t392 != 1) = true := bne_iff_ne.mpr c33; obtain rfl := Option.some.inj H
    go_wp2_with (first | ((with_reducible refine gate_dst (N := 45) rfl ?_); (try (refine gate_guard (by rfl) ?_; dsimp only)); refine Kd.S_make k43 _ 43 rfl (N := 45) rfl 28 _ _ rfl 2 rfl rfl Try.underlying28 (.agg #[(.bool false), (.bool false), (.slice none 0 0)]) 32 info43 rfl (by decide) (by omega) z43 (ok := fun _ => True) (okp := fun _ => True) (k43_mkM _ _ _ z43 (Kd.R_nil _ _ _ _ _)) (fun _ hk => hk) trivial (by omega) (by omega) (Below.refl _ _) (Nat.le_refl _) ?_; intro v390 w81 ho82 hb hg_ hnew_; clear hg_ hnew_; (first | rw [← Ny389.out] at ho82 | (simp only [Int.reduceToNat] at ho82; rw [← Ny389.out] at ho82)); replace HO_382002 := Aside0.mk (Kd.R_below (pR_ HO_382002.out) hb); replace HO_388002 := Aside0.mk (Kd.R_below (pR_ HO_388002.out) hb); have HO391 := Aside0.mk (Kd.S_lower ho82 (below_size belowNow)); replace BK381 := Aside0.mk (blkStep (g := gb381) hb); replace BK387 := Aside0.mk (blkStep (g := gb387) hb); replace HB := Aside0.mk (below_step belowNow hb); clear hb ho82; obtain ⟨Ao83, co83, eo83⟩ := Kd.S_slice HO391.out; subst eo83) | (go_at_call 12; (with_reducible refine (impl_Route7.calls kj6 _ _ y389 0 1 t392 t393 t394 _ ?side1 ?side2 A32.out).mono ?_); (case side1 => repeat (first | exact (Kd.S_reads' HO391.out).2.2 | (with_reducible refine Kd.C_alloc ?_ _) | (with_reducible refine Kd.C_drewN ?_ _) | (with_reducible refine Kd.C_drew ?_))); (case side2 => exact (Kd.S_reads' HO391.out).2.1); rintro e w84 ⟨v395, rfl, ho0, hb⟩; obtain ⟨Af_, cf_, ef_⟩ := Kd.R_slice ho0; subst ef_; have hfd_ : ∀ w_ : World, (Instr.field 26 (.agg #[.int .i64 t392, .int .i64 t393, .slice Af_ t394.length cf_]) 0).run Try.prog w_ = .ok (.int .i64 t392) w_ := (fun _ => by kernel_rfl); have n0_ := Aside0.mk (Kd.R_elder' (pR_ HO_382002.out) (Kd.R_base ho0) hb); have n1_ := Aside0.mk (Kd.R_elder' (pR_ HO_388002.out) (Kd.R_base ho0) hb); have n2_ := Aside0.mk (Kd.S_below (pS_ HO391.out) hb); have n3_ := Aside0.mk (Kd.R_lower (Kd.R_new' (Kd.R_new' ho0 (Kd.R_lt (pR_ HO_382002.out))) (Kd.R_lt (pR_ HO_388002.out))) (below_size belowNow)); have n4_ := Aside0.mk (blkStep (g := gb381) hb); have n5_ := Aside0.mk (blkStep (g := gb387) hb); have n6_ := Aside0.mk (below_step belowNow hb); clear HO_382002; clear HO_388002; clear HO391; clear BK381; clear BK387; clear HB; have HO_382002 := n0_; have HO_388002 := n1_; have HO391 := n2_; have HO396 := n3_; have BK381 := n4_; have BK387 := n5_; have HB := n6_; clear n0_ n1_ n2_ n3_ n4_ n5_ n6_; (try clear hb); (try clear hb2); (try clear hk); (try clear hi); (try clear ho0)) | ((with_reducible refine wp_region_quiet_lit ?qm ?qb ?_); (case qm => kernel_rfl); (case qb => kernel_rfl)) | ((with_reducible refine wpQuiet_step ?_); intro K hK; go_simp; first | (refine hK _ ?_; clear hK K) | (apply Exists.intro; refine ⟨fun _ => ?_, hK _ ?_⟩; rotate_left; (try clear hK K); rotate_right)) | ((with_reducible refine wpQuiet_nil ?_); intro _ hw'; obtain ⟨nq, hw''⟩ := hw'; subst hw''))
    go_ret
    exact ⟨by first | rfl | (simp [errW_none, errW_some] <;> rfl) | (simp [*, errW_none, errW_some] <;> rfl), belowNow⟩

   rw [if_pos c33] at H; have c33b0 : (t392 == 1) = true := beq_iff_eq.mpr c33; have c33b1 : (t392 != 1) = false := bne_eq_false_iff_eq.mpr c33; clear c33; have HC34 := Aside0.mk H; clear H
   go_upto_region 10 with (first | ((with_reducible refine gate_dst (N := 45) rfl ?_); (try (refine gate_guard (by rfl) ?_; dsimp only)); refine Kd.S_make k43 _ 43 rfl (N := 45) rfl 28 _ _ rfl 2 rfl rfl Try.underlying28 (.agg #[(.bool false), (.bool false), (.slice none 0 0)]) 32 info43 rfl (by decide) (by omega) z43 (ok := fun _ => True) (okp := fun _ => True) (k43_mkM _ _ _ z43 (Kd.R_nil _ _ _ _ _)) (fun _ hk => hk) trivial (by omega) (by omega) (Below.refl _ _) (Nat.le_refl _) ?_; intro v390 w35 ho36 hb hg_ hnew_; clear hg_ hnew_; (first | rw [← Ny389.out] at ho36 | (simp only [Int.reduceToNat] at ho36; rw [← Ny389.out] at ho36)); replace HO_382002 := Aside0.mk (Kd.R_below (pR_ HO_382002.out) hb); replace HO_388002 := Aside0.mk (Kd.R_below (pR_ HO_388002.out) hb); have HO391 := Aside0.mk (Kd.S_lower ho36 (below_size belowNow)); replace BK381 := Aside0.mk (blkStep (g := gb381) hb); replace BK387 := Aside0.mk (blkStep (g := gb387) hb); replace HB := Aside0.mk (below_step belowNow hb); clear hb ho36; obtain ⟨Ao37, co37, eo37⟩ := Kd.S_slice HO391.out; subst eo37) | (go_at_call 12; (with_reducible refine (impl_Route7.calls kj6 _ _ y389 0 1 t392 t393 t394 _ ?side1 ?side2 A32.out).mono ?_); (case side1 => repeat (first | exact (Kd.S_reads' HO391.out).2.2 | (with_reducible refine Kd.C_alloc ?_ _) | (with_reducible refine Kd.C_drewN ?_ _) | (with_reducible refine Kd.C_drew ?_))); (case side2 => exact (Kd.S_reads' HO391.out).2.1); rintro e w38 ⟨v395, rfl, ho0, hb⟩; obtain ⟨Af_, cf_, ef_⟩ := Kd.R_slice ho0; subst ef_; have hfd_ : ∀ w_ : World, (Instr.field 26 (.agg #[.int .i64 t392, .int .i64 t393, .slice Af_ t394.length cf_]) 0).run Try.prog w_ = .ok (.int .i64 t392) w_ := (fun _ => by kernel_rfl); have n0_ := Aside0.mk (Kd.R_elder' (pR_ HO_382002.out) (Kd.R_base ho0) hb); have n1_ := Aside0.mk (Kd.R_elder' (pR_ HO_388002.out) (Kd.R_base ho0) hb); have n2_ := Aside0.mk (Kd.S_below (pS_ HO391.out) hb); have n3_ := Aside0.mk (Kd.R_lower (Kd.R_new' (Kd.R_new' ho0 (Kd.R_lt (pR_ HO_382002.out))) (Kd.R_lt (pR_ HO_388002.out))) (below_size belowNow)); have n4_ := Aside0.mk (blkStep (g := gb381) hb); have n5_ := Aside0.mk (blkStep (g := gb387) hb); have n6_ := Aside0.mk (below_step belowNow hb); clear HO_382002; clear HO_388002; clear HO391; clear BK381; clear BK387; clear HB; have HO_382002 := n0_; have HO_388002 := n1_; have HO391 := n2_; have HO396 := n3_; have BK381 := n4_; have BK387 := n5_; have HB := n6_; clear n0_ n1_ n2_ n3_ n4_ n5_ n6_; (try clear hb); (try clear hb2); (try clear hk); (try clear hi); (try clear ho0)))
   repeat (go_quiet (first | ((with_reducible refine gate_dst (N := 45) rfl ?_); (try (refine gate_guard (by rfl) ?_; dsimp only)); refine Kd.S_make k43 _ 43 rfl (N := 45) rfl 28 _ _ rfl 2 rfl rfl Try.underlying28 (.agg #[(.bool false), (.bool false), (.slice none 0 0)]) 32 info43 rfl (by decide) (by omega) z43 (ok := fun _ => True) (okp := fun _ => True) (k43_mkM _ _ _ z43 (Kd.R_nil _ _ _ _ _)) (fun _ hk => hk) trivial (by omega) (by omega) (Below.refl _ _) (Nat.le_refl _) ?_; intro v390 w35 ho36 hb hg_ hnew_; clear hg_ hnew_; (first | rw [← Ny389.out] at ho36 | (simp only [Int.reduceToNat] at ho36; rw [← Ny389.out] at ho36)); replace HO_382002 := Aside0.mk (Kd.R_below (pR_ HO_382002.out) hb); replace HO_388002 := Aside0.mk (Kd.R_below (pR_ HO_388002.out) hb); have HO391 := Aside0.mk (Kd.S_lower ho36 (below_size belowNow)); replace BK381 := Aside0.mk (blkStep (g := gb381) hb); replace BK387 := Aside0.mk (blkStep (g := gb387) hb); replace HB := Aside0.mk (below_step belowNow hb); clear hb ho36; obtain ⟨Ao37, co37, eo37⟩ := Kd.S_slice HO391.out; subst eo37) | (go_at_call 12; (with_reducible refine (impl_Route7.calls kj6 _ _ y389 0 1 t392 t393 t394 _ ?side1 ?side2 A32.out).mono ?_); (case side1 => repeat (first | exact (Kd.S_reads' HO391.out).2.2 | (with_reducible refine Kd.C_alloc ?_ _) | (with_reducible refine Kd.C_drewN ?_ _) | (with_reducible refine Kd.C_drew ?_))); (case side2 => exact (Kd.S_reads' HO391.out).2.1); rintro e w38 ⟨v395, rfl, ho0, hb⟩; obtain ⟨Af_, cf_, ef_⟩ := Kd.R_slice ho0; subst ef_; have hfd_ : ∀ w_ : World, (Instr.field 26 (.agg #[.int .i64 t392, .int .i64 t393, .slice Af_ t394.length cf_]) 0).run Try.prog w_ = .ok (.int .i64 t392) w_ := (fun _ => by kernel_rfl); have n0_ := Aside0.mk (Kd.R_elder' (pR_ HO_382002.out) (Kd.R_base ho0) hb); have n1_ := Aside0.mk (Kd.R_elder' (pR_ HO_388002.out) (Kd.R_base ho0) hb); have n2_ := Aside0.mk (Kd.S_below (pS_ HO391.out) hb); have n3_ := Aside0.mk (Kd.R_lower (Kd.R_new' (Kd.R_new' ho0 (Kd.R_lt (pR_ HO_382002.out))) (Kd.R_lt (pR_ HO_388002.out))) (below_size belowNow)); have n4_ := Aside0.mk (blkStep (g := gb381) hb); have n5_ := Aside0.mk (blkStep (g := gb387) hb); have n6_ := Aside0.mk (below_step belowNow hb); clear HO_382002; clear HO_388002; clear HO391; clear BK381; clear BK387; clear HB; have HO_382002 := n0_; have HO_388002 := n1_; have HO391 := n2_; have HO396 := n3_; have BK381 := n4_; have BK387 := n5_; have HB := n6_; clear n0_ n1_ n2_ n3_ n4_ n5_ n6_; (try clear hb); (try clear hb2); (try clear hk); (try clear hi); (try clear ho0))); go_upto_region 10 with (first | ((with_reducible refine gate_dst (N := 45) rfl ?_); (try (refine gate_guard (by rfl) ?_; dsimp only)); refine Kd.S_make k43 _ 43 rfl (N := 45) rfl 28 _ _ rfl 2 rfl rfl Try.underlying28 (.agg #[(.bool false), (.bool false), (.slice none 0 0)]) 32 info43 rfl (by decide) (by omega) z43 (ok := fun _ => True) (okp := fun _ => True) (k43_mkM _ _ _ z43 (Kd.R_nil _ _ _ _ _)) (fun _ hk => hk) trivial (by omega) (by omega) (Below.refl _ _) (Nat.le_refl _) ?_; intro v390 w35 ho36 hb hg_ hnew_; clear hg_ hnew_; (first | rw [← Ny389.out] at ho36 | (simp only [Int.reduceToNat] at ho36; rw [← Ny389.out] at ho36)); replace HO_382002 := Aside0.mk (Kd.R_below (pR_ HO_382002.out) hb); replace HO_388002 := Aside0.mk (Kd.R_below (pR_ HO_388002.out) hb); have HO391 := Aside0.mk (Kd.S_lower ho36 (below_size belowNow)); replace BK381 := Aside0.mk (blkStep (g := gb381) hb); replace BK387 := Aside0.mk (blkStep (g := gb387) hb); replace HB := Aside0.mk (below_step belowNow hb); clear hb ho36; obtain ⟨Ao37, co37, eo37⟩ := Kd.S_slice HO391.out; subst eo37) | (go_at_call 12; (with_reducible refine (impl_Route7.calls kj6 _ _ y389 0 1 t392 t393 t394 _ ?side1 ?side2 A32.out).mono ?_); (case side1 => repeat (first | exact (Kd.S_reads' HO391.out).2.2 | (with_reducible refine Kd.C_alloc ?_ _) | (with_reducible refine Kd.C_drewN ?_ _) | (with_reducible refine Kd.C_drew ?_))); (case side2 => exact (Kd.S_reads' HO391.out).2.1); rintro e w38 ⟨v395, rfl, ho0, hb⟩; obtain ⟨Af_, cf_, ef_⟩ := Kd.R_slice ho0; subst ef_; have hfd_ : ∀ w_ : World, (Instr.field 26 (.agg #[.int .i64 t392, .int .i64 t393, .slice Af_ t394.length cf_]) 0).run Try.prog w_ = .ok (.int .i64 t392) w_ := (fun _ => by kernel_rfl); have n0_ := Aside0.mk (Kd.R_elder' (pR_ HO_382002.out) (Kd.R_base ho0) hb); have n1_ := Aside0.mk (Kd.R_elder' (pR_ HO_388002.out) (Kd.R_base ho0) hb); have n2_ := Aside0.mk (Kd.S_below (pS_ HO391.out) hb); have n3_ := Aside0.mk (Kd.R_lower (Kd.R_new' (Kd.R_new' ho0 (Kd.R_lt (pR_ HO_382002.out))) (Kd.R_lt (pR_ HO_388002.out))) (below_size belowNow)); have n4_ := Aside0.mk (blkStep (g := gb381) hb); have n5_ := Aside0.mk (blkStep (g := gb387) hb); have n6_ := Aside0.mk (below_step belowNow hb); clear HO_382002; clear HO_388002; clear HO391; clear BK381; clear BK387; clear HB; have HO_382002 := n0_; have HO_388002 := n1_; have HO391 := n2_; have HO396 := n3_; have BK381 := n4_; have BK387 := n5_; have HB := n6_; clear n0_ n1_ n2_ n3_ n4_ n5_ n6_; (try clear hb); (try clear hb2); (try clear hk); (try clear hi); (try clear ho0))))
   (try simp only [Act.put, List.setIfInBounds_toArray, List.set_cons_zero, List.set_cons_succ])
   go_cut [56] (fun v56 wc => ∃ (kq : Nat) (x56_33 : Bool), v56 = .bool x56_33 ∧ Aside0 (laws_FnHops.j1 kq t372 t373 x56_33 t376 t377 t378 = some r) ∧ Aside0 (kq ≤ kj6) ∧ Aside0 (Kd.R (Kd.int .i64) 3 wc w.heap.size (fun k_ => some k_ ≠ ((.slice Ao18 t384.length co18) : Value).ownBlock) (.slice Ao13 t378.length co13) t378) ∧ Aside0 (Kd.R (Kd.int .i64) 3 wc w.heap.size (fun k_ => some k_ ≠ ((.slice Ao13 t378.length co13) : Value).ownBlock) (.slice Ao18 t384.length co18) t384) ∧ Aside0 (wc.heap[gb381]? = some (.cells #[.int .i64 t376, .int .i64 t377, (.slice Ao13 t378.length co13)] 26 (0, 0))) ∧ Aside0 (wc.heap[gb387]? = some (.cells #[.int .i64 t382, .int .i64 t383, (.slice Ao18 t384.length co18)] 26 (0, 0))) ∧ Aside0 (Below w.heap.size w wc))
   case first =>
    have H := HC34.out; clear HC34
    by_cases c39 : t382 = 8
    case neg =>
     rw [if_neg c39] at H; have c39b0 : (t382 == 8) = false := beq_eq_false_iff_ne.mpr c39; have c39b1 : (t382 != 8) = true := bne_iff_ne.mpr c39
     (first | rw [c39b0] | (simp only [i64_w, i32_w]; rw [c39b0]) | (rw [c39b2]; try simp only [Bool.not_false, Bool.not_true]) | skip)
     have H' := Aside0.mk H
     clear H; have ⟨hnb42, hnc42⟩ := nn11_ NB387_381.out; have hcz43_0 := cz11_ BK387.out 0 rfl; have hcz43_1 := cz11_ BK387.out 1 rfl; have hcz43_2 := cz11_ BK387.out 2 rfl; have hfz43_0 := blk_frozen BK387.out 0; have hfz43_1 := blk_frozen BK387.out 1; have hfz43_2 := blk_frozen BK387.out 2
     go_wp2
     repeat (go_quiet (fail); try go_wp2)
     go_meet
     case rel => exact ⟨_, ((t382 == 5)), (by first | rfl | (simp; done) | (simp [*]; done)), H', ⟨by have := HJ6.out; first | omega | exact Nat.le_refl _⟩, ⟨by (with_reducible repeat (first | apply Kd.R_alloc | apply Kd.R_drewN | apply Kd.R_drew)); exact Kd.R_mono HO_382002.out (fun _ hk => hk.1)⟩, ⟨by (with_reducible repeat (first | apply Kd.R_alloc | apply Kd.R_drewN | apply Kd.R_drew)); exact Kd.R_mono HO_388002.out (fun _ hk => hk.1)⟩, ⟨by (with_reducible repeat (first | refine blk_drewN ?_ _ | refine blk_drew ?_ | refine blk_alloc ?_ _)); exact BK381.out⟩, ⟨by (with_reducible repeat (first | refine blk_drewN ?_ _ | refine blk_drew ?_ | refine blk_alloc ?_ _)); exact BK387.out⟩, ⟨belowNow⟩⟩
    rw [if_pos c39] at H; have c39b0 : (t382 == 8) = true := beq_iff_eq.mpr c39; have c39b1 : (t382 != 8) = false := bne_eq_false_iff_eq.mpr c39; clear c39
    (first | rw [c39b0] | (simp only [i64_w, i32_w]; rw [c39b0]) | (rw [c39b2]; try simp only [Bool.not_false, Bool.not_true]) | skip)
    have H' := Aside0.mk H
    clear H; have ⟨hnb40, hnc40⟩ := nn11_ NB387_381.out; have hcz41_0 := cz11_ BK387.out 0 rfl; have hcz41_1 := cz11_ BK387.out 1 rfl; have hcz41_2 := cz11_ BK387.out 2 rfl; have hfz41_0 := blk_frozen BK387.out 0; have hfz41_1 := blk_frozen BK387.out 1; have hfz41_2 := blk_frozen BK387.out 2
    go_wp2
    repeat (go_quiet (fail); try go_wp2)
    go_meet
    case rel => exact ⟨_, (true), (by first | rfl | (simp; done) | (simp [*]; done)), H', ⟨by have := HJ6.out; first | omega | exact Nat.le_refl _⟩, ⟨by (with_reducible repeat (first | apply Kd.R_alloc | apply Kd.R_drewN | apply Kd.R_drew)); exact Kd.R_mono HO_382002.out (fun _ hk => hk.1)⟩, ⟨by (with_reducible repeat (first | apply Kd.R_alloc | apply Kd.R_drewN | apply Kd.R_drew)); exact Kd.R_mono HO_388002.out (fun _ hk => hk.1)⟩, ⟨by (with_reducible repeat (first | refine blk_drewN ?_ _ | refine blk_drew ?_ | refine blk_alloc ?_ _)); exact BK381.out⟩, ⟨by (with_reducible repeat (first | refine blk_drewN ?_ _ | refine blk_drew ?_ | refine blk_alloc ?_ _)); exact BK387.out⟩, ⟨belowNow⟩⟩
   case rest =>
    clear HC34; (try clear c1); (try clear c2); (try clear p2); (try clear c3); (try clear c4); (try clear c16); (try clear c19); (try clear c19b0); (try clear c19b1); (try clear c20); (try clear c20b0); (try clear c20b1); (try clear c22); (try clear c25); (try clear c28); (try clear c31); (try clear c33); (try clear c33b0); (try clear c33b1); (try clear c39); (try clear c39b0); (try clear c39b1); (try clear c40); (try clear c42); (try clear hcz12_0 hcz12_1 hcz12_2); (try clear hcz17_0 hcz17_1 hcz17_2); (try clear hcz23_0 hcz23_1 hcz23_2); (try clear hcz24_0 hcz24_1 hcz24_2); (try clear hcz26_0 hcz26_1 hcz26_2); (try clear hcz27_0 hcz27_1 hcz27_2); (try clear hcz29_0 hcz29_1 hcz29_2); (try clear hcz30_0 hcz30_1 hcz30_2); (try clear hcz41_0 hcz41_1 hcz41_2); (try clear hcz43_0 hcz43_1 hcz43_2); (try clear hfz12_0 hfz12_1 hfz12_2); (try clear hfz17_0 hfz17_1 hfz17_2); (try clear hfz23_0 hfz23_1 hfz23_2); (try clear hfz24_0 hfz24_1 hfz24_2); (try clear hfz26_0 hfz26_1 hfz26_2); (try clear hfz27_0 hfz27_1 hfz27_2); (try clear hfz29_0 hfz29_1 hfz29_2); (try clear hfz30_0 hfz30_1 hfz30_2); (try clear hfz41_0 hfz41_1 hfz41_2); (try clear hfz43_0 hfz43_1 hfz43_2); (try clear p2); obtain ⟨kq, x56_33, rfl, HA, HJ33, HO_382002, HO_388002, BK381, BK387, HB⟩ := hcut
    cases kq with
    | zero => exact absurd HA.out (by simp [laws_FnHops.j1])
    | succ kj33 =>
     have H := HA.out; clear HA; simp only [laws_FnHops.j1] at H
     by_cases c44 : x56_33 = true
     case pos =>
      subst c44
      have H1 : (some ((t378.length : Int) == 0)) = some r := by rw [if_pos rfl] at H; exact H
      clear H; have H := H1; clear H1; obtain rfl := Option.some.inj H; have ⟨hnb45, hnc45⟩ := nn11_ NB381_387.out; have hcz46_0 := cz11_ BK381.out 0 rfl; have hcz46_1 := cz11_ BK381.out 1 rfl; have hcz46_2 := cz11_ BK381.out 2 rfl; have hfz46_0 := blk_frozen BK381.out 0; have hfz46_1 := blk_frozen BK381.out 1; have hfz46_2 := blk_frozen BK381.out 2
      go_wp2
      repeat (go_quiet (fail); try go_wp2)
      go_ret
      exact ⟨by first | rfl | (simp [errW_none, errW_some] <;> rfl) | (simp [*, errW_none, errW_some] <;> rfl), belowNow⟩
     replace c44 := Bool.eq_false_iff.mpr c44; subst c44
     have H1 : (laws_FnHops.l0 kj33 t372 t373 0 t376 t377 t378) = some r := by rw [if_neg (show ¬ (false = true) by decide)] at H; exact H
     clear H; have H := H1; clear H1
     have H' := Aside0.mk H
     clear H
     go_wp2
     repeat (go_quiet (fail); try go_wp2)
     go_loopg [8] kj33 (fun kq v8 w' => ∃ (x8_3 : Int), v8 = .int .i64 x8_3 ∧ Aside0 (laws_FnHops.l0 kq t372 t373 x8_3 t376 t377 t378 = some r) ∧ Aside0 (kq ≤ kj33) ∧ Aside0 (Kd.R (Kd.int .i64) 3 w' w.heap.size (fun k_ => some k_ ≠ ((.slice Ao18 t384.length co18) : Value).ownBlock) (.slice Ao13 t378.length co13) t378) ∧ Aside0 (Kd.R (Kd.int .i64) 3 w' w.heap.size (fun k_ => some k_ ≠ ((.slice Ao13 t378.length co13) : Value).ownBlock) (.slice Ao18 t384.length co18) t384) ∧ Aside0 (w'.heap[gb381]? = some (.cells #[.int .i64 t376, .int .i64 t377, (.slice Ao13 t378.length co13)] 26 (0, 0))) ∧ Aside0 (w'.heap[gb387]? = some (.cells #[.int .i64 t382, .int .i64 t383, (.slice Ao18 t384.length co18)] 26 (0, 0))) ∧ Aside0 (Below w.heap.size w w'))
     case atStart => exact ⟨(0), (by first | rfl | (simp; done) | (simp [*]; done)), H', ⟨Nat.le_refl _⟩, ⟨by (with_reducible repeat (first | apply Kd.R_alloc | apply Kd.R_drewN | apply Kd.R_drew)); exact HO_382002.out⟩, ⟨by (with_reducible repeat (first | apply Kd.R_alloc | apply Kd.R_drewN | apply Kd.R_drew)); exact HO_388002.out⟩, ⟨by (with_reducible repeat (first | refine blk_drewN ?_ _ | refine blk_drew ?_ | refine blk_alloc ?_ _)); exact BK381.out⟩, ⟨by (with_reducible repeat (first | refine blk_drewN ?_ _ | refine blk_drew ?_ | refine blk_alloc ?_ _)); exact BK387.out⟩, ⟨belowNow⟩⟩
     case round =>
      clear H'
      (try clear c1); (try clear c2); (try clear p2); (try clear c3); (try clear c4); (try clear c16); (try clear c19); (try clear c19b0); (try clear c19b1); (try clear c20); (try clear c20b0); (try clear c20b1); (try clear c22); (try clear c25); (try clear c28); (try clear c31); (try clear c33); (try clear c33b0); (try clear c33b1); (try clear c39); (try clear c39b0); (try clear c39b1); (try clear c40); (try clear c42); (try clear c44); (try clear c45); (try clear hcz12_0 hcz12_1 hcz12_2); (try clear hcz17_0 hcz17_1 hcz17_2); (try clear hcz23_0 hcz23_1 hcz23_2); (try clear hcz24_0 hcz24_1 hcz24_2); (try clear hcz26_0 hcz26_1 hcz26_2); (try clear hcz27_0 hcz27_1 hcz27_2); (try clear hcz29_0 hcz29_1 hcz29_2); (try clear hcz30_0 hcz30_1 hcz30_2); (try clear hcz41_0 hcz41_1 hcz41_2); (try clear hcz43_0 hcz43_1 hcz43_2); (try clear hcz46_0 hcz46_1 hcz46_2); (try clear hfz12_0 hfz12_1 hfz12_2); (try clear hfz17_0 hfz17_1 hfz17_2); (try clear hfz23_0 hfz23_1 hfz23_2); (try clear hfz24_0 hfz24_1 hfz24_2); (try clear hfz26_0 hfz26_1 hfz26_2); (try clear hfz27_0 hfz27_1 hfz27_2); (try clear hfz29_0 hfz29_1 hfz29_2); (try clear hfz30_0 hfz30_1 hfz30_2); (try clear hfz41_0 hfz41_1 hfz41_2); (try clear hfz43_0 hfz43_1 hfz43_2); (try clear hfz46_0 hfz46_1 hfz46_2); (try clear p2); obtain ⟨x8_3, rfl, HA, HK3, HO_382002, HO_388002, BK381, BK387, HB⟩ := hrel
      cases gk with
      | zero => exact absurd HA.out (by simp [laws_FnHops.l0])
      | succ k3 =>
       have H := HA.out; clear HA; simp only [laws_FnHops.l0] at H
       by_cases c47 : x8_3 < (t378.length : Int)
       case neg =>
        rw [if_neg c47] at H; have c47b0 : decide (x8_3 < (t378.length : Int)) = false := decide_eq_false c47; clear c47
        by_cases c62 : (t378.length : Int) ≤ 6
        case neg =>
         rw [if_neg c62] at H; have c62b0 : decide ((t378.length : Int) ≤ 6) = false := decide_eq_false c62
         have c62b1 : decide (t378.length ≤ 6) = false := decide_eq_false (by omega)
         clear c62; obtain rfl := Option.some.inj H; have ⟨hnb79, hnc79⟩ := nn11_ NB381_387.out; have hcz80_0 := cz11_ BK381.out 0 rfl; have hcz80_1 := cz11_ BK381.out 1 rfl; have hcz80_2 := cz11_ BK381.out 2 rfl; have hfz80_0 := blk_frozen BK381.out 0; have hfz80_1 := blk_frozen BK381.out 1; have hfz80_2 := blk_frozen BK381.out 2
         go_wp2
         repeat (go_quiet (fail); try go_wp2)
         go_ret
         exact ⟨by first | rfl | (simp [errW_none, errW_some] <;> rfl) | (simp [*, errW_none, errW_some] <;> rfl), belowNow⟩
        rw [if_pos c62] at H; have c62b0 : decide ((t378.length : Int) ≤ 6) = true := decide_eq_true c62
        have c62b1 : decide (t378.length ≤ 6) = true := decide_eq_true (by omega)
        clear c62
        by_cases c63 : (t378.length : Int) = 0
        case neg =>
         rw [if_neg c63] at H; have c63b0 : ((t378.length : Int) == 0) = false := beq_eq_false_iff_ne.mpr c63; have c63b1 : ((t378.length : Int) != 0) = true := bne_iff_ne.mpr c63
         have c63b2 : ¬ (t378 = []) := fun h_ => c63 (by rw [h_]; rfl)
         by_cases c73 : (t378.length : Int) > 0
         case neg =>
          rw [if_neg c73] at H; have c73b0 : decide (0 < (t378.length : Int)) = false := decide_eq_false c73
          have c73b1 : decide (0 < t378.length) = false := decide_eq_false (by omega)
          clear c73; obtain rfl := Option.some.inj H; have ⟨hnb77, hnc77⟩ := nn11_ NB381_387.out; have hcz78_0 := cz11_ BK381.out 0 rfl; have hcz78_1 := cz11_ BK381.out 1 rfl; have hcz78_2 := cz11_ BK381.out 2 rfl; have hfz78_0 := blk_frozen BK381.out 0; have hfz78_1 := blk_frozen BK381.out 1; have hfz78_2 := blk_frozen BK381.out 2
          go_wp2
          repeat (go_quiet (fail); try go_wp2)
          go_ret
          exact ⟨by first | rfl | (simp [errW_none, errW_some] <;> rfl) | (simp [*, errW_none, errW_some] <;> rfl), belowNow⟩
         rw [if_pos c73] at H; have c73b0 : decide (0 < (t378.length : Int)) = true := decide_eq_true c73
         have c73b1 : decide (0 < t378.length) = true := decide_eq_true (by omega)
         clear c73
         by_cases c74 : 0 < (t378.length : Int)
         case neg =>
          rw [if_neg c74] at H
          exact absurd H (by simp)
         rw [if_pos c74] at H; have c74b0 : decide (0 < (t378.length : Int)) = true := decide_eq_true c74
         have c74b1 : decide (0 < t378.length) = true := decide_eq_true (by omega)
         clear c74; obtain rfl := Option.some.inj H; have ⟨hnb75, hnc75⟩ := nn11_ NB381_387.out; have hcz76_0 := cz11_ BK381.out 0 rfl; have hcz76_1 := cz11_ BK381.out 1 rfl; have hcz76_2 := cz11_ BK381.out 2 rfl; have hfz76_0 := blk_frozen BK381.out 0; have hfz76_1 := blk_frozen BK381.out 1; have hfz76_2 := blk_frozen BK381.out 2
         have p405 : 0 ≤ (0 : Int) := (by omega)
         have q405 : 0 < (t378.length : Int) := of_decide_eq_true (by first | (with_reducible assumption) | assumption)
         obtain ⟨ad405, e405, hx405_0⟩ := Kd.at_int (Kd.R_reads' HO_382002.out).2.2 0 p405 q405
         cases e405
         have qi405 : (0 < t378.length) = True := eq_true (by omega)
         (try rw [show ((0 : Int)).toNat = 0 from rfl] at hx405_0)
         (try rw [Addr.add_zero'] at hx405_0)
         replace p405 := eq_true p405; replace q405 := eq_true q405
         go_wp2
         repeat (go_quiet (fail); try go_wp2)
         go_ret
         exact ⟨by first | rfl | (simp [errW_none, errW_some] <;> rfl) | (simp [*, errW_none, errW_some] <;> rfl), belowNow⟩
        rw [if_pos c63] at H; have c63b0 : ((t378.length : Int) == 0) = true := beq_iff_eq.mpr c63; have c63b1 : ((t378.length : Int) != 0) = false := bne_eq_false_iff_eq.mpr c63; clear c63
        by_cases c64 : t377 = t373
        case pos =>
         rw [if_pos c64] at H; have c64b0 : (t377 == t373) = true := beq_iff_eq.mpr c64; have c64b1 : (t377 != t373) = false := bne_eq_false_iff_eq.mpr c64; clear c64; obtain rfl := Option.some.inj H; have ⟨hnb65, hnc65⟩ := nn11_ NB381_387.out; have hcz66_0 := cz11_ BK381.out 0 rfl; have hcz66_1 := cz11_ BK381.out 1 rfl; have hcz66_2 := cz11_ BK381.out 2 rfl; have hfz66_0 := blk_frozen BK381.out 0; have hfz66_1 := blk_frozen BK381.out 1; have hfz66_2 := blk_frozen BK381.out 2
         go_wp2
         repeat (go_quiet (fail); try go_wp2)
         go_ret
         exact ⟨by first | rfl | (simp [errW_none, errW_some] <;> rfl) | (simp [*, errW_none, errW_some] <;> rfl), belowNow⟩
        rw [if_neg c64] at H; have c64b0 : (t377 == t373) = false := beq_eq_false_iff_ne.mpr c64; have c64b1 : (t377 != t373) = true := bne_iff_ne.mpr c64
        by_cases c67 : (t378.length : Int) > 0
        case neg =>
         rw [if_neg c67] at H; have c67b0 : decide (0 < (t378.length : Int)) = false := decide_eq_false c67
         have c67b1 : decide (0 < t378.length) = false := decide_eq_false (by omega)
         clear c67; obtain rfl := Option.some.inj H; have ⟨hnb71, hnc71⟩ := nn11_ NB381_387.out; have hcz72_0 := cz11_ BK381.out 0 rfl; have hcz72_1 := cz11_ BK381.out 1 rfl; have hcz72_2 := cz11_ BK381.out 2 rfl; have hfz72_0 := blk_frozen BK381.out 0; have hfz72_1 := blk_frozen BK381.out 1; have hfz72_2 := blk_frozen BK381.out 2
         go_wp2
         repeat (go_quiet (fail); try go_wp2)
         go_ret
         exact ⟨by first | rfl | (simp [errW_none, errW_some] <;> rfl) | (simp [*, errW_none, errW_some] <;> rfl), belowNow⟩
        rw [if_pos c67] at H; have c67b0 : decide (0 < (t378.length : Int)) = true := decide_eq_true c67
        have c67b1 : decide (0 < t378.length) = true := decide_eq_true (by omega)
        clear c67
        by_cases c68 : 0 < (t378.length : Int)
        case neg =>
         rw [if_neg c68] at H
         exact absurd H (by simp)
        rw [if_pos c68] at H; have c68b0 : decide (0 < (t378.length : Int)) = true := decide_eq_true c68
        have c68b1 : decide (0 < t378.length) = true := decide_eq_true (by omega)
        clear c68; obtain rfl := Option.some.inj H; have ⟨hnb69, hnc69⟩ := nn11_ NB381_387.out; have hcz70_0 := cz11_ BK381.out 0 rfl; have hcz70_1 := cz11_ BK381.out 1 rfl; have hcz70_2 := cz11_ BK381.out 2 rfl; have hfz70_0 := blk_frozen BK381.out 0; have hfz70_1 := blk_frozen BK381.out 1; have hfz70_2 := blk_frozen BK381.out 2
        have p404 : 0 ≤ (0 : Int) := (by omega)
        have q404 : 0 < (t378.length : Int) := of_decide_eq_true (by first | (with_reducible assumption) | assumption)
        obtain ⟨ad404, e404, hx404_0⟩ := Kd.at_int (Kd.R_reads' HO_382002.out).2.2 0 p404 q404
        cases e404
        have qi404 : (0 < t378.length) = True := eq_true (by omega)
        (try rw [show ((0 : Int)).toNat = 0 from rfl] at hx404_0)
        (try rw [Addr.add_zero'] at hx404_0)
        replace p404 := eq_true p404; replace q404 := eq_true q404
        go_wp2
        repeat (go_quiet (fail); try go_wp2)
        go_ret
        exact ⟨by first | rfl | (simp [errW_none, errW_some] <;> rfl) | (simp [*, errW_none, errW_some] <;> rfl), belowNow⟩
       rw [if_pos c47] at H; have c47b0 : decide (x8_3 < (t378.length : Int)) = true := decide_eq_true c47; clear c47
       by_cases c48 : 0 ≤ x8_3
       case neg =>
        rw [if_neg c48] at H
        exact absurd H (by simp)
       rw [if_pos c48] at H; have c48b0 := eq_true c48; have c48b1 : decide (0 ≤ x8_3) = true := decide_eq_true c48; clear c48
       by_cases c49 : x8_3 ≤ (t378.length : Int)
       case neg =>
        rw [if_neg c49] at H
        exact absurd H (by simp)
       rw [if_pos c49] at H; have c49b0 := eq_true c49; have c49b1 : decide (x8_3 ≤ (t378.length : Int)) = true := decide_eq_true c49; clear c49; obtain ⟨y397, hy397⟩ : ∃ y_ : List Int, y_ = (t378.take (x8_3 : Int).toNat) := ⟨_, rfl⟩
       replace H : ((laws_within.f k3 y397 (rd t378 x8_3)).bind fun t402 => (if t402 = true then (some false) else (if (rd t378 x8_3) = t372 then (some false) else (laws_FnHops.l0 k3 t372 t373 (wrap64 (x8_3 + 1)) t376 t377 t378)))) = some r := by first | (rw [hy397]; with_reducible exact H) | (have H2_ := (Option.bind_some _ _).symm.trans H; rw [hy397]; with_reducible exact H2_) | (have H2_ := (Option.bind_some _ _).symm.trans H; with_reducible exact H2_) | with_reducible exact H | (rw [hy397]; exact H) | exact H
       have Ny397 := Aside0.mk hy397; clear hy397; replace H := Option.bind_eq_some_iff.mp H; obtain ⟨t402, A500, H⟩ := H
       replace H : (if t402 = true then (some false) else (if (rd t378 x8_3) = t372 then (some false) else (laws_FnHops.l0 k3 t372 t373 (wrap64 (x8_3 + 1)) t376 t377 t378))) = some r := H
       have A50 := Aside0.mk A500; clear A500
       by_cases c51 : t402 = true
       case pos =>
        subst c51
        have H1 : (some false) = some r := by rw [if_pos rfl] at H; exact H
        clear H; have H := H1; clear H1; obtain rfl := Option.some.inj H; have ⟨hnb52, hnc52⟩ := nn11_ NB381_387.out; have hcz53_0 := cz11_ BK381.out 0 rfl; have hcz53_1 := cz11_ BK381.out 1 rfl; have hcz53_2 := cz11_ BK381.out 2 rfl; have hfz53_0 := blk_frozen BK381.out 0; have hfz53_1 := blk_frozen BK381.out 1; have hfz53_2 := blk_frozen BK381.out 2
        have q54 : (x8_3 : Int) ≤ ((t378.length : Int) : Int) := of_decide_eq_true (by first | (with_reducible assumption) | assumption)
        obtain ⟨i054, hi054, _, hsz54, _⟩ := info_parts info3; have hroom54 : t378.length ≤ co13 := (Kd.R_reads' HO_382002.out).2.1; have hC54 : Kd.C (Kd.int .i64) _ Ao13 t378.length t378 := (Kd.R_reads' HO_382002.out).2.2
        have hcut54 := cut_to (P := Try.prog) 24 3 .i64 Try.underlying24 hi054 Ao13 t378.length co13 x8_3 (of_decide_eq_true (by first | (with_reducible assumption) | assumption)) q54 hroom54
        have hr54 := Kd.C_take (m := (x8_3 : Int).toNat) hC54 (by omega)
        have hy54 : y397.length = (x8_3 : Int).toNat := (by rw [Ny397.out, List.length_take]; omega)
        rw [← Ny397.out] at hr54; rw [← hy54] at hcut54; have HR400 := Aside0.mk hr54
        have HC400 := Aside0.mk (show y397.length ≤ co13 from by omega)
        clear hr54 hC54 hroom54 hi054 hsz54; have KY54 := Aside0.mk hy54; clear hy54
        have KL54 := Aside0.mk (show (x8_3 : Int).toNat ≤ t378.length from by omega)
        replace q54 := eq_true q54
        have p401 : 0 ≤ (x8_3 : Int) := of_decide_eq_true (by first | (with_reducible assumption) | assumption)
        have q401 : x8_3 < (t378.length : Int) := of_decide_eq_true (by first | (with_reducible assumption) | assumption)
        obtain ⟨ad401, e401, hx401_0⟩ := Kd.at_int (Kd.R_reads' HO_382002.out).2.2 x8_3 p401 q401
        cases e401
        replace p401 := eq_true p401; replace q401 := eq_true q401
        go_wp2_with (first | (go_at_call 21; (with_reducible refine (laws_within.calls k3 _ _ y397 (rd t378 x8_3) true _ ?side1 ?side2 A50.out).mono ?_); (case side1 => repeat (first | exact (by repeat (first | (with_reducible exact HR400.out) | (with_reducible refine Kd.C_alloc ?_ _) | (with_reducible refine Kd.C_drewN ?_ _) | (with_reducible refine Kd.C_drew ?_) | exact HR400.out)) | (with_reducible refine Kd.C_alloc ?_ _) | (with_reducible refine Kd.C_drewN ?_ _) | (with_reducible refine Kd.C_drew ?_))); (case side2 => exact HC400.out); rintro e w' ⟨rfl, ⟨nd, rfl⟩⟩; (try first | exact ⟨rfl, _, World.drewN_drewN _ _ _⟩ | exact ⟨rfl, _, Eq.trans (World.drewN_drewN _ _ _) (congrArg (World.drewN _) (Nat.add_assoc _ _ _))⟩)) | ((with_reducible refine wp_region_quiet_lit ?qm ?qb ?_); (case qm => kernel_rfl); (case qb => kernel_rfl)) | ((with_reducible refine wpQuiet_step ?_); intro K hK; go_simp; first | (refine hK _ ?_; clear hK K) | (apply Exists.intro; refine ⟨fun _ => ?_, hK _ ?_⟩; rotate_left; (try clear hK K); rotate_right)) | ((with_reducible refine wpQuiet_nil ?_); intro _ hw'; obtain ⟨nq, hw''⟩ := hw'; subst hw''))
        go_ret
        exact ⟨by first | rfl | (simp [errW_none, errW_some] <;> rfl) | (simp [*, errW_none, errW_some] <;> rfl), belowNow⟩
       replace c51 := Bool.eq_false_iff.mpr c51; subst c51
       have H1 : (if (rd t378 x8_3) = t372 then (some false) else (laws_FnHops.l0 k3 t372 t373 (wrap64 (x8_3 + 1)) t376 t377 t378)) = some r := by rw [if_neg (show ¬ (false = true) by decide)] at H; exact H
       clear H; have H := H1; clear H1
       by_cases c55 : (rd t378 x8_3) = t372
       case pos =>
        rw [if_pos c55] at H; have c55b0 : ((rd t378 x8_3) == t372) = true := beq_iff_eq.mpr c55; have c55b1 : ((rd t378 x8_3) != t372) = false := bne_eq_false_iff_eq.mpr c55; clear c55; obtain rfl := Option.some.inj H; have ⟨hnb56, hnc56⟩ := nn11_ NB381_387.out; have hcz57_0 := cz11_ BK381.out 0 rfl; have hcz57_1 := cz11_ BK381.out 1 rfl; have hcz57_2 := cz11_ BK381.out 2 rfl; have hfz57_0 := blk_frozen BK381.out 0; have hfz57_1 := blk_frozen BK381.out 1; have hfz57_2 := blk_frozen BK381.out 2
        have q58 : (x8_3 : Int) ≤ ((t378.length : Int) : Int) := of_decide_eq_true (by first | (with_reducible assumption) | assumption)
        obtain ⟨i058, hi058, _, hsz58, _⟩ := info_parts info3; have hroom58 : t378.length ≤ co13 := (Kd.R_reads' HO_382002.out).2.1; have hC58 : Kd.C (Kd.int .i64) _ Ao13 t378.length t378 := (Kd.R_reads' HO_382002.out).2.2
        have hcut58 := cut_to (P := Try.prog) 24 3 .i64 Try.underlying24 hi058 Ao13 t378.length co13 x8_3 (of_decide_eq_true (by first | (with_reducible assumption) | assumption)) q58 hroom58
        have hr58 := Kd.C_take (m := (x8_3 : Int).toNat) hC58 (by omega)
        have hy58 : y397.length = (x8_3 : Int).toNat := (by rw [Ny397.out, List.length_take]; omega)
        rw [← Ny397.out] at hr58; rw [← hy58] at hcut58; have HR400 := Aside0.mk hr58
        have HC400 := Aside0.mk (show y397.length ≤ co13 from by omega)
        clear hr58 hC58 hroom58 hi058 hsz58; have KY58 := Aside0.mk hy58; clear hy58
        have KL58 := Aside0.mk (show (x8_3 : Int).toNat ≤ t378.length from by omega)
        replace q58 := eq_true q58
        have p401 : 0 ≤ (x8_3 : Int) := of_decide_eq_true (by first | (with_reducible assumption) | assumption)
        have q401 : x8_3 < (t378.length : Int) := of_decide_eq_true (by first | (with_reducible assumption) | assumption)
        obtain ⟨ad401, e401, hx401_0⟩ := Kd.at_int (Kd.R_reads' HO_382002.out).2.2 x8_3 p401 q401
        cases e401
        replace p401 := eq_true p401; replace q401 := eq_true q401
        go_wp2_with (first | (go_at_call 21; (with_reducible refine (laws_within.calls k3 _ _ y397 (rd t378 x8_3) false _ ?side1 ?side2 A50.out).mono ?_); (case side1 => repeat (first | exact (by repeat (first | (with_reducible exact HR400.out) | (with_reducible refine Kd.C_alloc ?_ _) | (with_reducible refine Kd.C_drewN ?_ _) | (with_reducible refine Kd.C_drew ?_) | exact HR400.out)) | (with_reducible refine Kd.C_alloc ?_ _) | (with_reducible refine Kd.C_drewN ?_ _) | (with_reducible refine Kd.C_drew ?_))); (case side2 => exact HC400.out); rintro e w' ⟨rfl, ⟨nd, rfl⟩⟩; (try first | exact ⟨rfl, _, World.drewN_drewN _ _ _⟩ | exact ⟨rfl, _, Eq.trans (World.drewN_drewN _ _ _) (congrArg (World.drewN _) (Nat.add_assoc _ _ _))⟩); all_goals (have p403 : 0 ≤ (x8_3 : Int) := of_decide_eq_true (by first | (with_reducible assumption) | assumption); have q403 : x8_3 < (t378.length : Int) := of_decide_eq_true (by first | (with_reducible assumption) | assumption); obtain ⟨ad403, e403, hx403_0⟩ := Kd.at_int (Kd.R_reads' HO_382002.out).2.2 x8_3 p403 q403; obtain rfl : ad401 = ad403 := (by injection e403); replace p403 := eq_true p403; replace q403 := eq_true q403)) | ((with_reducible refine wp_region_quiet_lit ?qm ?qb ?_); (case qm => kernel_rfl); (case qb => kernel_rfl)) | ((with_reducible refine wpQuiet_step ?_); intro K hK; go_simp; first | (refine hK _ ?_; clear hK K) | (apply Exists.intro; refine ⟨fun _ => ?_, hK _ ?_⟩; rotate_left; (try clear hK K); rotate_right)) | ((with_reducible refine wpQuiet_nil ?_); intro _ hw'; obtain ⟨nq, hw''⟩ := hw'; subst hw''))
        go_ret
        exact ⟨by first | rfl | (simp [errW_none, errW_some] <;> rfl) | (simp [*, errW_none, errW_some] <;> rfl), belowNow⟩
       rw [if_neg c55] at H; have c55b0 : ((rd t378 x8_3) == t372) = false := beq_eq_false_iff_ne.mpr c55; have c55b1 : ((rd t378 x8_3) != t372) = true := bne_iff_ne.mpr c55
       have H' := Aside0.mk H
       clear H; have ⟨hnb59, hnc59⟩ := nn11_ NB381_387.out; have hcz60_0 := cz11_ BK381.out 0 rfl; have hcz60_1 := cz11_ BK381.out 1 rfl; have hcz60_2 := cz11_ BK381.out 2 rfl; have hfz60_0 := blk_frozen BK381.out 0; have hfz60_1 := blk_frozen BK381.out 1; have hfz60_2 := blk_frozen BK381.out 2
       have q61 : (x8_3 : Int) ≤ ((t378.length : Int) : Int) := of_decide_eq_true (by first | (with_reducible assumption) | assumption)
       obtain ⟨i061, hi061, _, hsz61, _⟩ := info_parts info3; have hroom61 : t378.length ≤ co13 := (Kd.R_reads' HO_382002.out).2.1; have hC61 : Kd.C (Kd.int .i64) _ Ao13 t378.length t378 := (Kd.R_reads' HO_382002.out).2.2
       have hcut61 := cut_to (P := Try.prog) 24 3 .i64 Try.underlying24 hi061 Ao13 t378.length co13 x8_3 (of_decide_eq_true (by first | (with_reducible assumption) | assumption)) q61 hroom61
       have hr61 := Kd.C_take (m := (x8_3 : Int).toNat) hC61 (by omega)
       have hy61 : y397.length = (x8_3 : Int).toNat := (by rw [Ny397.out, List.length_take]; omega)
       rw [← Ny397.out] at hr61; rw [← hy61] at hcut61; have HR400 := Aside0.mk hr61
       have HC400 := Aside0.mk (show y397.length ≤ co13 from by omega)
       clear hr61 hC61 hroom61 hi061 hsz61; have KY61 := Aside0.mk hy61; clear hy61
       have KL61 := Aside0.mk (show (x8_3 : Int).toNat ≤ t378.length from by omega)
       replace q61 := eq_true q61
       have p401 : 0 ≤ (x8_3 : Int) := of_decide_eq_true (by first | (with_reducible assumption) | assumption)
       have q401 : x8_3 < (t378.length : Int) := of_decide_eq_true (by first | (with_reducible assumption) | assumption)
       obtain ⟨ad401, e401, hx401_0⟩ := Kd.at_int (Kd.R_reads' HO_382002.out).2.2 x8_3 p401 q401
       cases e401
       replace p401 := eq_true p401; replace q401 := eq_true q401
       go_wp2_with (first | (go_at_call 21; (with_reducible refine (laws_within.calls k3 _ _ y397 (rd t378 x8_3) false _ ?side1 ?side2 A50.out).mono ?_); (case side1 => repeat (first | exact (by repeat (first | (with_reducible exact HR400.out) | (with_reducible refine Kd.C_alloc ?_ _) | (with_reducible refine Kd.C_drewN ?_ _) | (with_reducible refine Kd.C_drew ?_) | exact HR400.out)) | (with_reducible refine Kd.C_alloc ?_ _) | (with_reducible refine Kd.C_drewN ?_ _) | (with_reducible refine Kd.C_drew ?_))); (case side2 => exact HC400.out); rintro e w' ⟨rfl, ⟨nd, rfl⟩⟩; (try first | exact ⟨rfl, _, World.drewN_drewN _ _ _⟩ | exact ⟨rfl, _, Eq.trans (World.drewN_drewN _ _ _) (congrArg (World.drewN _) (Nat.add_assoc _ _ _))⟩); all_goals (have p403 : 0 ≤ (x8_3 : Int) := of_decide_eq_true (by first | (with_reducible assumption) | assumption); have q403 : x8_3 < (t378.length : Int) := of_decide_eq_true (by first | (with_reducible assumption) | assumption); obtain ⟨ad403, e403, hx403_0⟩ := Kd.at_int (Kd.R_reads' HO_382002.out).2.2 x8_3 p403 q403; obtain rfl : ad401 = ad403 := (by injection e403); replace p403 := eq_true p403; replace q403 := eq_true q403)) | ((with_reducible refine wp_region_quiet_lit ?qm ?qb ?_); (case qm => kernel_rfl); (case qb => kernel_rfl)) | ((with_reducible refine wpQuiet_step ?_); intro K hK; go_simp; first | (refine hK _ ?_; clear hK K) | (apply Exists.intro; refine ⟨fun _ => ?_, hK _ ?_⟩; rotate_left; (try clear hK K); rotate_right)) | ((with_reducible refine wpQuiet_nil ?_); intro _ hw'; obtain ⟨nq, hw''⟩ := hw'; subst hw''))
       go_roundg k3
       case measure => have := HJ6.out; have := HJ33.out; have := HK3.out; omega
       case rel => exact ⟨(wrap64 (x8_3 + 1)), (by first | rfl | (simp; done) | (simp [*]; done)), H', ⟨by have := HJ6.out; have := HJ33.out; have := HK3.out; omega⟩, ⟨by (with_reducible repeat (first | apply Kd.R_alloc | apply Kd.R_drewN | apply Kd.R_drew)); exact HO_382002.out⟩, ⟨by (with_reducible repeat (first | apply Kd.R_alloc | apply Kd.R_drewN | apply Kd.R_drew)); exact HO_388002.out⟩, ⟨by (with_reducible repeat (first | refine blk_drewN ?_ _ | refine blk_drew ?_ | refine blk_alloc ?_ _)); exact BK381.out⟩, ⟨by (with_reducible repeat (first | refine blk_drewN ?_ _ | refine blk_drew ?_ | refine blk_alloc ?_ _)); exact BK387.out⟩, ⟨belowNow⟩⟩
/-- THE ONE PURE STATEMENT of laws_FnHops: yours. -/
def laws_FnHops.Pure : Prop := ∀ (l0 : List Int), l0.length ≤ maxLen → l0.length * 1 ≤ 140737488351232 → (∀ x ∈ l0, (Lit.int .u8 x).wf = true) → ∃ k, laws_FnHops.f k l0 = some true
theorem laws_FnHops.walk (P : laws_FnHops.Pure) (a0 : Option Addr) (len0 cap0 : Nat) (z0 : List Int) (w : World) (w0 : (a0 = none ∧ len0 = 0 ∧ cap0 = 0 ∧ z0 = []) ∨ ∃ x, a0 = some x ∧ len0 ≤ cap0 ∧ cap0 ≤ maxLen ∧ z0.length = cap0 ∧ (∀ i, i < z0.length → w.cell? (x.add i) = some (.int .u8 (z0.getD i 0))) ∧ ∀ n ∈ z0, (Lit.int .u8 n).wf = true) (y0 : len0 * 1 ≤ 140737488351232) :
  Calls Try.prog 4 #[.slice a0 len0 cap0] w fun e w' => e = .returned (.bool true) ∧ Below w.heap.size w w' := by
 obtain ⟨l0, rfl, hr0, hm0, hw0, hc0⟩ := ReadsInt.ofRowC w0; obtain ⟨k, h⟩ := P l0 hm0 y0 hw0
 refine (laws_FnHops.calls k _ _ l0 true w (Kd.C_of_reads (d := (0 : Int)) (h1 := fun _ => rfl) hr0) hc0 h).mono ?_
 rintro e w' ⟨rfl, hd⟩
 exact ⟨rfl, hd⟩

end Go.Proofs.Ytkcmdfeiaafdjaa.PFnHops
