-- laid by a program of this session (wip/lay/lay.py); Lean checks it
import Derived.Test.YtodehmbgcncnhaaVFnReservedShort
import Derived.Test.YtodehmbgcncnhaaPFnReservedx0
import Derived.Test.YtodehmbgcncnhaaPFnReservedx8
import Derived.Test.YtodehmbgcncnhaaPFnReservedx10
namespace Go.Proofs.Ytodehmbgcncnhaa.PFnReserved
-- squashed
open Go.RowKit Go.Proofs.YtodehmbgcncnhaaW.PrintWords Go.Proofs.YtodehmbgcncnhaaW.PrintLast Go.Proofs.YtodehmbgcncnhaaW.PrintMore Go.Proofs.Ytodehmbgcncnhaa.Short
attribute [local go_sem] max2_int min2_int max_two min_two max_three min_three max_four min_four   -- for this text's walks alone
set_option linter.unusedVariables false
set_option linter.unusedSimpArgs false

/-! ### spec_DrawReserve: function 34 -/
def spec_DrawReserve.j0 : Nat → List Int → Int → Int → Int → Int → Option (Int × Int × (List (S60)) × Int × Int × Int)
 | 0, _, _, _, _, _ => none
 | k + 1, x320000, x320001, x320002, x327000, x327001 => (spec_l9DrawAny.f k x320000 x320001 x320002).bind fun bt336 => ((spec_l1Below.f x320000 bt336.2.1 bt336.2.2 3).bind fun bt341 => ((spec_l9DrawBegin.f k x320000 bt341.2.1 bt341.2.2).bind fun bt344 => ((spec_l1PickInt.f x320000 bt344.2.1 bt344.2.2 (([1, 30, 100, 600, 3000, 86400, 86401, 0, 1000] : List Int))).bind fun bt350 => (some (x327000, x327001, bt336.1, bt341.1, bt344.1, bt350.1)))))
def spec_DrawReserve.f (k : Nat) (l0 : List Int) : Option (Int × Int × (List (S60)) × Int × Int × Int) := (spec_l1New.f k l0).bind fun bt316 => ((spec_l1Below.f bt316.1 bt316.2.1 bt316.2.2 400).bind fun bt320 => ((spec_l1Below.f bt316.1 bt320.2.1 bt320.2.2 100).bind fun bt323 => ((spec_l1Once.f bt316.1 bt323.2.1 bt323.2.2 30).bind fun bt327 => (if bt327.1 = true then ((spec_l1PickInt.f bt316.1 bt327.2.1 bt327.2.2 (([(-1), 1000000000, 1000000001] : List Int))).bind fun bt333 => (spec_DrawReserve.j0 k bt316.1 bt333.2.1 bt333.2.2 bt333.1 bt323.1)) else (spec_DrawReserve.j0 k bt316.1 bt327.2.1 bt327.2.2 bt320.1 bt323.1)))))
theorem spec_DrawReserve.mono_l : ∀ k, (∀ y0 y1 y2 y3 y4, LeO (spec_DrawReserve.j0 k y0 y1 y2 y3 y4) (spec_DrawReserve.j0 (k + 1) y0 y1 y2 y3 y4))
 | 0 => fun _ _ _ _ _ r h => by simp [spec_DrawReserve.j0] at h
 | k + 1 => by
  have ih0 := spec_DrawReserve.mono_l k
  ·intro y0 y1 y2 y3 y4
   unfold spec_DrawReserve.j0
   repeat' first
   | (with_reducible exact ih0 _ _ _ _ _)
   | (with_reducible exact spec_l1New.mono _ _)
   | (with_reducible exact spec_l9DrawAny.mono _ _ _ _)
   | (with_reducible exact spec_l9DrawBegin.mono _ _ _ _)
   | (with_reducible exact LeO.refl _)
   | (with_reducible exact LeO.none _)
   | (with_reducible refine LeO.ite ?_ ?_)
   | (with_reducible refine LeO.bind ?_ (fun _ => ?_))
   | exact ih0 _ _ _ _ _
   | exact spec_l1New.mono _ _
   | exact spec_l9DrawAny.mono _ _ _ _
   | exact spec_l9DrawBegin.mono _ _ _ _
   | exact LeO.none _
   | refine LeO.ite ?_ ?_
   | refine LeO.bind ?_ (fun _ => ?_)
theorem spec_DrawReserve.mono : ∀ a0 k, LeO (spec_DrawReserve.f k a0) (spec_DrawReserve.f (k + 1) a0) := by
 intro a0 k
 have ih0 := spec_DrawReserve.mono_l k
 unfold spec_DrawReserve.f
 repeat' first
   | (with_reducible exact ih0 _ _ _ _ _)
   | (with_reducible exact spec_l1New.mono _ _)
   | (with_reducible exact spec_l9DrawAny.mono _ _ _ _)
   | (with_reducible exact spec_l9DrawBegin.mono _ _ _ _)
   | (with_reducible exact LeO.refl _)
   | (with_reducible exact LeO.none _)
   | (with_reducible refine LeO.ite ?_ ?_)
   | (with_reducible refine LeO.bind ?_ (fun _ => ?_))
   | exact ih0 _ _ _ _ _
   | exact spec_l1New.mono _ _
   | exact spec_l9DrawAny.mono _ _ _ _
   | exact spec_l9DrawBegin.mono _ _ _ _
   | exact LeO.none _
   | refine LeO.ite ?_ ?_
   | refine LeO.bind ?_ (fun _ => ?_)
def spec_DrawReserve.T5 : Bool × List (List Nat × List Nat) := (true, [([], []), ([], []), ([1], [1]), ([], []), ([3, 2], [3]), ([], []), ([5, 4], [5]), ([], []), ([], []), ([7, 8, 6], [7, 8]), ([0, 9, 0], [0]), ([2, 10, 0, 1, 2, 10], [2]), ([4, 11, 0, 1, 2, 3, 4, 10, 11], [4]), ([6, 12, 0, 1, 2, 3, 4, 5, 6, 10, 11, 12], [6]), ([9, 13, 0, 1, 2, 3, 4, 5, 6, 7, 8, 9, 10, 11, 12, 13], [9])])
def spec_DrawReserve.B5 : List Nat := [0, 0, 2, 0, 14, 0, 62, 0, 0, 510, 1023, 2047, 4095, 8191, 16383]
theorem spec_DrawReserve.tab5 : rtab .any (opsOf Try.f34 5) = spec_DrawReserve.T5 := by kernel_rfl
theorem spec_DrawReserve.bits5 : waitsOk spec_DrawReserve.T5.2 spec_DrawReserve.B5 = true := by kernel_rfl
set_option maxHeartbeats 8000000 in
set_option maxRecDepth 100000 in
theorem spec_DrawReserve.calls (k : Nat) (A0 : Option Addr) (c0 : Nat) (l0 : List Int) (r1 : Int) (r2 : Int) (r3 : List (S60)) (r4 : Int) (r5 : Int) (r6 : Int) (w : World) (hr0 : Kd.C (Kd.int .u8) w A0 l0.length l0) (hc0 : l0.length ≤ c0) (h : spec_DrawReserve.f k l0 = some (r1, r2, r3, r4, r5, r6)) :
  Calls Try.prog 34 #[.slice A0 l0.length c0] w fun e w' => ∃ v2_ : Value, e = .returned (.tuple #[.agg #[.int .i64 r1, .int .i64 r2], v2_, .int .i64 r4, .int .i64 r5, .int .i64 r6]) ∧ Kd.R k60 60 w' w.heap.size (fun _ => True) v2_ r3 ∧ Below w.heap.size w w' := by
 have hu24 := Try.underlying24
 have HR0 := Aside0.mk hr0
 have HC0 := Aside0.mk hc0
 clear hr0 hc0
 have HB := Aside0.mk (Below.refl w.heap.size w)
 have H : ((spec_l1New.f k l0).bind fun bt316 => ((spec_l1Below.f bt316.1 bt316.2.1 bt316.2.2 400).bind fun bt320 => ((spec_l1Below.f bt316.1 bt320.2.1 bt320.2.2 100).bind fun bt323 => ((spec_l1Once.f bt316.1 bt323.2.1 bt323.2.2 30).bind fun bt327 => (if bt327.1 = true then ((spec_l1PickInt.f bt316.1 bt327.2.1 bt327.2.2 (([(-1), 1000000000, 1000000001] : List Int))).bind fun bt333 => (spec_DrawReserve.j0 k bt316.1 bt333.2.1 bt333.2.2 bt333.1 bt323.1)) else (spec_DrawReserve.j0 k bt316.1 bt327.2.1 bt327.2.2 bt320.1 bt323.1)))))) = some (r1, r2, r3, r4, r5, r6) := h
 clear h
 replace H := Option.bind_eq_some_iff.mp H
 obtain ⟨⟨t316, t317, t318⟩, A20, H⟩ := H
 replace H : ((spec_l1Below.f t316 t317 t318 400).bind fun bt320 => ((spec_l1Below.f t316 bt320.2.1 bt320.2.2 100).bind fun bt323 => ((spec_l1Once.f t316 bt323.2.1 bt323.2.2 30).bind fun bt327 => (if bt327.1 = true then ((spec_l1PickInt.f t316 bt327.2.1 bt327.2.2 (([(-1), 1000000000, 1000000001] : List Int))).bind fun bt333 => (spec_DrawReserve.j0 k t316 bt333.2.1 bt333.2.2 bt333.1 bt323.1)) else (spec_DrawReserve.j0 k t316 bt327.2.1 bt327.2.2 bt320.1 bt323.1))))) = some (r1, r2, r3, r4, r5, r6) := H
 have A2 := Aside0.mk A20
 clear A20
 replace H := Option.bind_eq_some_iff.mp H
 obtain ⟨⟨t320, t321, t322⟩, A30, H⟩ := H
 replace H : ((spec_l1Below.f t316 t321 t322 100).bind fun bt323 => ((spec_l1Once.f t316 bt323.2.1 bt323.2.2 30).bind fun bt327 => (if bt327.1 = true then ((spec_l1PickInt.f t316 bt327.2.1 bt327.2.2 (([(-1), 1000000000, 1000000001] : List Int))).bind fun bt333 => (spec_DrawReserve.j0 k t316 bt333.2.1 bt333.2.2 bt333.1 bt323.1)) else (spec_DrawReserve.j0 k t316 bt327.2.1 bt327.2.2 t320 bt323.1)))) = some (r1, r2, r3, r4, r5, r6) := H
 have A3 := Aside0.mk A30
 clear A30
 replace H := Option.bind_eq_some_iff.mp H
 obtain ⟨⟨t323, t324, t325⟩, A40, H⟩ := H
 replace H : ((spec_l1Once.f t316 t324 t325 30).bind fun bt327 => (if bt327.1 = true then ((spec_l1PickInt.f t316 bt327.2.1 bt327.2.2 (([(-1), 1000000000, 1000000001] : List Int))).bind fun bt333 => (spec_DrawReserve.j0 k t316 bt333.2.1 bt333.2.2 bt333.1 t323)) else (spec_DrawReserve.j0 k t316 bt327.2.1 bt327.2.2 t320 t323))) = some (r1, r2, r3, r4, r5, r6) := H
 have A4 := Aside0.mk A40
 clear A40
 replace H := Option.bind_eq_some_iff.mp H
 obtain ⟨⟨t327, t328, t329⟩, A50, H⟩ := H
 replace H : (if t327 = true then ((spec_l1PickInt.f t316 t328 t329 (([(-1), 1000000000, 1000000001] : List Int))).bind fun bt333 => (spec_DrawReserve.j0 k t316 bt333.2.1 bt333.2.2 bt333.1 t323)) else (spec_DrawReserve.j0 k t316 t328 t329 t320 t323)) = some (r1, r2, r3, r4, r5, r6) := H
 have A5 := Aside0.mk A50
 clear A50
 have HC6 := Aside0.mk H
 clear H
 go_enter Try.func34, Try.ntmps34
 go_upto_if 17 with (first | ((with_reducible refine gate_dst (N := 2) rfl ?_); refine box_event ?hg (N := 2) ?hd (cs := #[.int .i64 0, .int .i64 0]) (t := 24) ?hr ?_; (case hd => rfl); (case hg => rfl); (case hr => first | (go_simp; done) | (go_simp; rfl)); intro gb315 hg w7 hbox hb; have n0_ := Aside0.mk (below_step belowNow hb); have n1_ := Aside0.mk (hbox); have n2_ := Aside0.mk ((by rw [hg]; exact (below_size belowNow) : w.heap.size ≤ gb315)); have n3_ := n2_; clear HB; have HB := n0_; have BK315 := n1_; have GW315 := n2_; have GE315 := n3_; clear n0_ n1_ n2_ n3_; clear hb hbox hg) | ((with_reducible refine gate_callee (f := 45) rfl ?_); refine goesL_ (some 10) rfl rfl Try.func45 (by kernel_rfl) rfl #[.slice A0 l0.length c0] rfl (by (try simp only [List.map_toArray, List.map_cons, List.map_nil]); first | done | rfl | (simp only [List.length_drop, List.length_take]; rfl)) ?_; (with_reducible refine (spec_l1New.calls k _ _ l0 t316 t317 t318 w _ ?side1 ?side2 ?side3 A2.out).mono ?_); (case side1 => repeat (first | (with_reducible first | exact HB.out | apply below_alloc | apply pw_below_drewN | apply below_drew1 | refine below_set ?_ GE315.out) | exact HB.out)); (case side2 => exact HR0.out); (case side3 => exact HC0.out); rintro e w8 ⟨g319, rfl, hi, hb, hb2⟩; refine ⟨_, rfl, ?_⟩; have n0_ := Aside0.mk (blk_below (g := gb315) (o := .cells #[.int .i64 0, .int .i64 0] 24 (0, 0)) blkNow hb2); have n1_ := Aside0.mk (hb); have n2_ := Aside0.mk (hi); have n3_ := Aside0.mk (IsS83.ne_blk hi (blk_below (g := gb315) (o := .cells #[.int .i64 0, .int .i64 0] 24 (0, 0)) blkNow hb2) (by decide)); have n4_ := Aside0.mk (Ne.symm (IsS83.ne_blk hi (blk_below (g := gb315) (o := .cells #[.int .i64 0, .int .i64 0] 24 (0, 0)) blkNow hb2) (by decide))); clear BK315; clear HB; have BK315 := n0_; have HB := n1_; have HI319 := n2_; have NB319_315 := n3_; have NB315_319 := n4_; clear n0_ n1_ n2_ n3_ n4_; (try clear hb); (try clear hb2); (try clear hk); (try clear hi)) | ((with_reducible refine gate_callee (f := 46) rfl ?_); refine goesL_ (some 12) rfl rfl Try.func46 (by kernel_rfl) rfl #[.pointer (some ⟨g319, 0, none⟩), .int .i64 400] rfl (by (try simp only [List.map_toArray, List.map_cons, List.map_nil]); first | done | rfl | (simp only [List.length_drop, List.length_take]; rfl)) ?_; (with_reducible refine (spec_l1Below.calls g319 t316 t317 t318 400 t320 t321 t322 w _ ?side1 ?side2 A3.out).mono ?_); (case side1 => repeat (first | (with_reducible first | exact HI319.out | apply IsS83.alloc | apply IsS83.drewN | apply IsS83.drew | apply IsS83.set_1 | apply IsS83.set_2 | refine IsS83.far ?_ NB319_315.out _) | exact HI319.out)); (case side2 => repeat (first | (with_reducible first | exact HB.out | apply below_alloc | apply pw_below_drewN | apply below_drew1 | refine below_set ?_ (IsS83.ge HI319.out) | refine below_set ?_ GE315.out) | exact HB.out)); rintro e w9 ⟨rfl, hi, hb, hk⟩; refine ⟨_, rfl, ?_⟩; have n0_ := Aside0.mk (KeepBut.blk hk (g' := gb315) (o := .cells #[.int .i64 0, .int .i64 0] 24 (0, 0)) blkNow NB315_319.out (by simp)); have n1_ := Aside0.mk (hb); have n2_ := Aside0.mk (hi); clear BK315; clear HB; clear HI319; have BK315 := n0_; have HB := n1_; have HI319 := n2_; clear n0_ n1_ n2_; (try clear hb); (try clear hb2); (try clear hk); (try clear hi)) | ((with_reducible refine gate_callee (f := 46) rfl ?_); refine goesL_ (some 14) rfl rfl Try.func46 (by kernel_rfl) rfl #[.pointer (some ⟨g319, 0, none⟩), .int .i64 100] rfl (by (try simp only [List.map_toArray, List.map_cons, List.map_nil]); first | done | rfl | (simp only [List.length_drop, List.length_take]; rfl)) ?_; (with_reducible refine (spec_l1Below.calls g319 t316 t321 t322 100 t323 t324 t325 w _ ?side1 ?side2 A4.out).mono ?_); (case side1 => repeat (first | (with_reducible first | exact HI319.out | apply IsS83.alloc | apply IsS83.drewN | apply IsS83.drew | apply IsS83.set_1 | apply IsS83.set_2 | refine IsS83.far ?_ NB319_315.out _) | exact HI319.out)); (case side2 => repeat (first | (with_reducible first | exact HB.out | apply below_alloc | apply pw_below_drewN | apply below_drew1 | refine below_set ?_ (IsS83.ge HI319.out) | refine below_set ?_ GE315.out) | exact HB.out)); rintro e w10 ⟨rfl, hi, hb, hk⟩; refine ⟨_, rfl, ?_⟩; have n0_ := Aside0.mk (KeepBut.blk hk (g' := gb315) (o := .cells #[.int .i64 0, .int .i64 0] 24 (0, 0)) blkNow NB315_319.out (by simp)); have n1_ := Aside0.mk (hb); have n2_ := Aside0.mk (hi); clear BK315; clear HB; clear HI319; have BK315 := n0_; have HB := n1_; have HI319 := n2_; clear n0_ n1_ n2_; (try clear hb); (try clear hb2); (try clear hk); (try clear hi)) | ((with_reducible refine gate_dst (N := 8) rfl ?_); refine box_event ?hg (N := 8) ?hd (cs := #[.int .i64 0, .int .i64 0]) (t := 24) ?hr ?_; (case hd => rfl); (case hg => rfl); (case hr => first | (go_simp; done) | (go_simp; rfl)); intro gb326 hg w11 hbox hb; have n0_ := Aside0.mk (blk_below (g := gb315) (o := .cells #[.int .i64 0, .int .i64 0] 24 (0, 0)) blkNow hb); have n1_ := Aside0.mk (IsS83.below (by repeat (first | (with_reducible first | exact HI319.out | apply IsS83.alloc | apply IsS83.drewN | apply IsS83.drew | apply IsS83.set_1 | apply IsS83.set_2 | refine IsS83.far ?_ NB319_315.out _) | exact HI319.out)) hb); have n2_ := Aside0.mk (below_step (by repeat (first | (with_reducible first | exact HB.out | apply below_alloc | apply pw_below_drewN | apply below_drew1 | refine below_set ?_ (IsS83.ge HI319.out) | refine below_set ?_ GE315.out) | exact HB.out)) hb); have n3_ := Aside0.mk (hbox); have n4_ := Aside0.mk ((by rw [hg]; exact (below_size (by repeat (first | (with_reducible first | exact HB.out | apply below_alloc | apply pw_below_drewN | apply below_drew1 | refine below_set ?_ (IsS83.ge HI319.out) | refine below_set ?_ GE315.out) | exact HB.out))) : w.heap.size ≤ gb326)); have n5_ := n4_; have n6_ := Aside0.mk ((by rw [hg]; exact Nat.ne_of_lt (blk_lt (g := gb315) (o := .cells #[.int .i64 0, .int .i64 0] 24 (0, 0)) blkNow) : gb315 ≠ gb326)); have n7_ := Aside0.mk ((by rw [hg]; exact Nat.ne_of_gt (blk_lt (g := gb315) (o := .cells #[.int .i64 0, .int .i64 0] 24 (0, 0)) blkNow) : gb326 ≠ gb315)); have n8_ := Aside0.mk ((by rw [hg]; exact Nat.ne_of_lt (IsS83.lt (show IsS83 w _ g319 t316 t324 t325 from by repeat (first | (with_reducible first | exact HI319.out | apply IsS83.alloc | apply IsS83.drewN | apply IsS83.drew | apply IsS83.set_1 | apply IsS83.set_2 | refine IsS83.far ?_ NB319_315.out _) | exact HI319.out))) : g319 ≠ gb326)); have n9_ := Aside0.mk ((by rw [hg]; exact Nat.ne_of_gt (IsS83.lt (show IsS83 w _ g319 t316 t324 t325 from by repeat (first | (with_reducible first | exact HI319.out | apply IsS83.alloc | apply IsS83.drewN | apply IsS83.drew | apply IsS83.set_1 | apply IsS83.set_2 | refine IsS83.far ?_ NB319_315.out _) | exact HI319.out))) : gb326 ≠ g319)); clear BK315; clear HI319; clear HB; have BK315 := n0_; have HI319 := n1_; have HB := n2_; have BK326 := n3_; have GW326 := n4_; have GE326 := n5_; have NB315_326 := n6_; have NB326_315 := n7_; have NB319_326 := n8_; have NB326_319 := n9_; clear n0_ n1_ n2_ n3_ n4_ n5_ n6_ n7_ n8_ n9_; clear hb hbox hg; have hnb12 := NB326_315.out; have hnc12 := NB315_326.out; have hnb13 := NB326_319.out; have hnc13 := NB319_326.out; have hcz14_0 : w11.cell? ⟨gb326, 0, none⟩ = some (.int .i64 0) := (blk_cell BK326.out 0).trans rfl; have hcz14_1 : w11.cell? ⟨gb326, 1, none⟩ = some (.int .i64 0) := (blk_cell BK326.out 1).trans rfl; have hfz14_0 := blk_frozen BK326.out 0; have hfz14_1 := blk_frozen BK326.out 1) | ((with_reducible refine gate_callee (f := 47) rfl ?_); refine goesL_ (some 17) rfl rfl Try.func47 (by kernel_rfl) rfl #[.pointer (some ⟨g319, 0, none⟩), .int .i64 30] rfl (by (try simp only [List.map_toArray, List.map_cons, List.map_nil]); first | done | rfl | (simp only [List.length_drop, List.length_take]; rfl)) ?_; (with_reducible refine (spec_l1Once.calls g319 t316 t324 t325 30 t327 t328 t329 w _ ?side1 ?side2 A5.out).mono ?_); (case side1 => repeat (first | (with_reducible first | exact HI319.out | apply IsS83.alloc | apply IsS83.drewN | apply IsS83.drew | apply IsS83.set_1 | apply IsS83.set_2 | refine IsS83.far ?_ NB319_315.out _ | refine IsS83.far ?_ NB319_326.out _) | exact HI319.out)); (case side2 => repeat (first | (with_reducible first | exact HB.out | apply below_alloc | apply pw_below_drewN | apply below_drew1 | refine below_set ?_ (IsS83.ge HI319.out) | refine below_set ?_ GE315.out | refine below_set ?_ GE326.out) | exact HB.out)); rintro e w15 ⟨rfl, hi, hb, hk⟩; refine ⟨_, rfl, ?_⟩; have n0_ := Aside0.mk (KeepBut.blk hk (g' := gb315) (o := .cells #[.int .i64 0, .int .i64 0] 24 (0, 0)) (by (with_reducible repeat (first | refine blk_drewN ?_ _ | refine blk_drew ?_ | refine blk_alloc ?_ _)); refine blk_far ?_ NB315_326.out _; (with_reducible repeat (first | refine blk_drewN ?_ _ | refine blk_drew ?_ | refine blk_alloc ?_ _)); refine blk_far ?_ NB315_326.out _; (with_reducible repeat (first | refine blk_drewN ?_ _ | refine blk_drew ?_ | refine blk_alloc ?_ _)); exact BK315.out) NB315_319.out (by simp)); have n1_ := Aside0.mk (KeepBut.blk hk (g' := gb326) (o := .cells #[.int .i64 t320, .int .i64 t323] 24 (0, 0)) (by (with_reducible repeat (first | refine blk_drewN ?_ _ | refine blk_drew ?_ | refine blk_alloc ?_ _)); refine blk_put (cs := #[.int .i64 t320, .int .i64 0]) ?_ 1 _ rfl; (with_reducible repeat (first | refine blk_drewN ?_ _ | refine blk_drew ?_ | refine blk_alloc ?_ _)); refine blk_put (cs := #[.int .i64 0, .int .i64 0]) ?_ 0 _ rfl; (with_reducible repeat (first | refine blk_drewN ?_ _ | refine blk_drew ?_ | refine blk_alloc ?_ _)); exact BK326.out) NB326_319.out (by simp)); have n2_ := Aside0.mk (hb); have n3_ := Aside0.mk (hi); clear BK315; clear BK326; clear HB; clear HI319; have BK315 := n0_; have BK326 := n1_; have HB := n2_; have HI319 := n3_; clear n0_ n1_ n2_ n3_; (try clear hb); (try clear hb2); (try clear hk); (try clear hi)))
 (try simp only [Act.put, List.setIfInBounds_toArray, List.set_cons_zero, List.set_cons_succ])
 go_cut [] (fun wc => ∃ (kq : Nat) (x320001_5 : Int) (x320002_5 : Int) (x327000_5 : Int), Aside0 (spec_DrawReserve.j0 kq t316 x320001_5 x320002_5 x327000_5 t323 = some (r1, r2, r3, r4, r5, r6)) ∧ Aside0 (kq ≤ k) ∧ Aside0 (wc.heap[gb315]? = some (.cells #[.int .i64 0, .int .i64 0] 24 (0, 0))) ∧ Aside0 (wc.heap[gb326]? = some (.cells #[.int .i64 x327000_5, .int .i64 t323] 24 (0, 0))) ∧ Aside0 (IsS83 w wc g319 t316 x320001_5 x320002_5) ∧ Aside0 (Below w.heap.size w wc))
 case first =>
  have H := HC6.out
  clear HC6
  by_cases c16 : t327 = true
  ·subst c16
   have H1 : ((spec_l1PickInt.f t316 t328 t329 (([(-1), 1000000000, 1000000001] : List Int))).bind fun bt333 => (spec_DrawReserve.j0 k t316 bt333.2.1 bt333.2.2 bt333.1 t323)) = some (r1, r2, r3, r4, r5, r6) := by rw [if_pos rfl] at H; exact H
   clear H
   have H := H1
   clear H1
   obtain ⟨y330, hy330⟩ : ∃ y_ : List Int, y_ = (([(-1), 1000000000, 1000000001] : List Int)) := ⟨_, rfl⟩
   replace H : ((spec_l1PickInt.f t316 t328 t329 y330).bind fun bt333 => (spec_DrawReserve.j0 k t316 bt333.2.1 bt333.2.2 bt333.1 t323)) = some (r1, r2, r3, r4, r5, r6) := by first | (rw [hy330]; with_reducible exact H) | (have H2_ := (Option.bind_some _ _).symm.trans H; rw [hy330]; with_reducible exact H2_) | (have H2_ := (Option.bind_some _ _).symm.trans H; with_reducible exact H2_) | with_reducible exact H | (rw [hy330]; exact H) | exact H
   have Ny330 := Aside0.mk hy330
   clear hy330
   replace H := Option.bind_eq_some_iff.mp H
   obtain ⟨⟨t333, t334, t335⟩, A170, H⟩ := H
   replace H : (spec_DrawReserve.j0 k t316 t334 t335 t333 t323) = some (r1, r2, r3, r4, r5, r6) := H
   have A17 := Aside0.mk A170
   clear A170
   have H' := Aside0.mk H
   clear H
   go_wp2_with (first | ((with_reducible refine gate_dst (N := 19) rfl ?_); refine Kd.R_lit (Kd.int .i64) _ 3 ?hg (N := 19) ?hd (xs := ([(-1), 1000000000, 1000000001] : List Int)) (inner := [.int .i64 (-1), .int .i64 1000000000, .int .i64 1000000001]) (ok := fun _ => True) (okp := fun _ => True) ?hr ?hp (fun _ hk => hk) trivial (Below.refl _ _) (Nat.le_refl _) (by simp) ?_; (case hd => rfl); (case hg => rfl); (case hr => first | (go_simp; done) | (go_simp; rfl)); (case hp => exact (Reps.one (show Kd.M (Kd.int .i64) _ _ _ (-1) [.int .i64 (-1)] from rfl) (Reps.one (show Kd.M (Kd.int .i64) _ _ _ 1000000000 [.int .i64 1000000000] from rfl) (Reps.one (show Kd.M (Kd.int .i64) _ _ _ 1000000001 [.int .i64 1000000001] from rfl) (Reps.none _ _))))); intro v331 w18 ho19 hb hg_ hnew_; clear hg_ hnew_; (first | rw [← Ny330.out] at ho19 | (simp only [Int.reduceToNat] at ho19; rw [← Ny330.out] at ho19)); have n0_ := Aside0.mk (Kd.R_lower ho19 (below_size (by repeat (first | (with_reducible first | exact HB.out | apply below_alloc | apply pw_below_drewN | apply below_drew1 | refine below_set ?_ (IsS83.ge HI319.out) | refine below_set ?_ GE315.out | refine below_set ?_ GE326.out) | exact HB.out)))); have n1_ := Aside0.mk (blk_below (g := gb315) (o := .cells #[.int .i64 0, .int .i64 0] 24 (0, 0)) blkNow hb); have n2_ := Aside0.mk (IsS83.below (by repeat (first | (with_reducible first | exact HI319.out | apply IsS83.alloc | apply IsS83.drewN | apply IsS83.drew | apply IsS83.set_1 | apply IsS83.set_2 | refine IsS83.far ?_ NB319_315.out _ | refine IsS83.far ?_ NB319_326.out _) | exact HI319.out)) hb); have n3_ := Aside0.mk (blk_below (g := gb326) (o := .cells #[.int .i64 t320, .int .i64 t323] 24 (0, 0)) blkNow hb); have n4_ := Aside0.mk (below_step (by repeat (first | (with_reducible first | exact HB.out | apply below_alloc | apply pw_below_drewN | apply below_drew1 | refine below_set ?_ (IsS83.ge HI319.out) | refine below_set ?_ GE315.out | refine below_set ?_ GE326.out) | exact HB.out)) hb); clear BK315; clear HI319; clear BK326; clear HB; have HO332 := n0_; have BK315 := n1_; have HI319 := n2_; have BK326 := n3_; have HB := n4_; clear n0_ n1_ n2_ n3_ n4_; clear hb ho19; obtain ⟨Ao20, co20, eo20⟩ := Kd.R_slice HO332.out; subst eo20) | ((with_reducible refine gate_callee (f := 48) rfl ?_); refine goesL_ (some 20) rfl rfl Try.func48 (by kernel_rfl) rfl #[.pointer (some ⟨g319, 0, none⟩), .slice Ao20 y330.length co20] rfl (by (try simp only [List.map_toArray, List.map_cons, List.map_nil]); first | done | rfl | (simp only [List.length_drop, List.length_take]; rfl)) ?_; (with_reducible refine (spec_l1PickInt.calls g319 t316 t328 t329 _ _ y330 t333 t334 t335 w _ ?side1 ?side2 ?side3 ?side4 ?side5 A17.out).mono ?_); (case side1 => repeat (first | (with_reducible first | exact HI319.out | apply IsS83.alloc | apply IsS83.drewN | apply IsS83.drew | apply IsS83.set_1 | apply IsS83.set_2 | refine IsS83.far ?_ NB319_315.out _ | refine IsS83.far ?_ NB319_326.out _) | exact HI319.out)); (case side2 => repeat (first | (with_reducible first | exact HB.out | apply below_alloc | apply pw_below_drewN | apply below_drew1 | refine below_set ?_ (IsS83.ge HI319.out) | refine below_set ?_ GE315.out | refine below_set ?_ GE326.out) | exact HB.out)); (case side3 => repeat (first | exact (Kd.R_reads' HO332.out).2.2 | (with_reducible refine Kd.C_alloc ?_ _) | (with_reducible refine Kd.C_drewN ?_ _) | (with_reducible refine Kd.C_drew ?_))); (case side4 => exact (Kd.R_reads' HO332.out).2.1); (case side5 => exact far_slice (IsS83.own_ne HI319.out HO332.out (by decide))); rintro e w21 ⟨rfl, hi, hb, hk⟩; refine ⟨_, rfl, ?_⟩; have n0_ := Aside0.mk (KeepBut.blk hk (g' := gb315) (o := .cells #[.int .i64 0, .int .i64 0] 24 (0, 0)) blkNow NB315_319.out (by simp)); have n1_ := Aside0.mk (KeepBut.blk hk (g' := gb326) (o := .cells #[.int .i64 t320, .int .i64 t323] 24 (0, 0)) blkNow NB326_319.out (by simp)); have n2_ := Aside0.mk (Kd.R_mono (Kd.R_keep (IsS83.apart (show IsS83 w _ g319 t316 t328 t329 from by repeat (first | (with_reducible first | exact HI319.out | apply IsS83.alloc | apply IsS83.drewN | apply IsS83.drew | apply IsS83.set_1 | apply IsS83.set_2 | refine IsS83.far ?_ NB319_315.out _ | refine IsS83.far ?_ NB319_326.out _) | exact HI319.out)) (by (with_reducible repeat (first | apply Kd.R_alloc | apply Kd.R_drewN | apply Kd.R_drew)); exact HO332.out) (by decide)) hk (fun _ h => h.2)) (fun _ h => h.1)); have n3_ := Aside0.mk (hb); have n4_ := Aside0.mk (hi); clear BK315; clear BK326; clear HO332; clear HB; clear HI319; have BK315 := n0_; have BK326 := n1_; have HO332 := n2_; have HB := n3_; have HI319 := n4_; clear n0_ n1_ n2_ n3_ n4_; (try clear hb); (try clear hb2); (try clear hk); (try clear hi); have hnb22 := NB326_315.out; have hnc22 := NB315_326.out; have hnb23 := NB326_319.out; have hnc23 := NB319_326.out; have hcz24_0 : w21.cell? ⟨gb326, 0, none⟩ = some (.int .i64 t320) := (blk_cell BK326.out 0).trans rfl; have hcz24_1 : w21.cell? ⟨gb326, 1, none⟩ = some (.int .i64 t323) := (blk_cell BK326.out 1).trans rfl; have hfz24_0 := blk_frozen BK326.out 0; have hfz24_1 := blk_frozen BK326.out 1))
   go_meet
   case rel => exact ⟨_, (t334), (t335), (t333), H', ⟨by first | omega | exact Nat.le_refl _⟩, ⟨by (with_reducible repeat (first | refine blk_drewN ?_ _ | refine blk_drew ?_ | refine blk_alloc ?_ _)); refine blk_far ?_ NB315_326.out _; (with_reducible repeat (first | refine blk_drewN ?_ _ | refine blk_drew ?_ | refine blk_alloc ?_ _)); exact BK315.out⟩, ⟨by (with_reducible repeat (first | refine blk_drewN ?_ _ | refine blk_drew ?_ | refine blk_alloc ?_ _)); refine blk_put (cs := #[.int .i64 t320, .int .i64 t323]) ?_ 0 _ rfl; (with_reducible repeat (first | refine blk_drewN ?_ _ | refine blk_drew ?_ | refine blk_alloc ?_ _)); exact BK326.out⟩, ⟨by repeat (first | (with_reducible first | exact HI319.out | apply IsS83.alloc | apply IsS83.drewN | apply IsS83.drew | apply IsS83.set_1 | apply IsS83.set_2 | refine IsS83.far ?_ NB319_315.out _ | refine IsS83.far ?_ NB319_326.out _) | exact HI319.out)⟩, ⟨by repeat (first | (with_reducible first | exact HB.out | apply below_alloc | apply pw_below_drewN | apply below_drew1 | refine below_set ?_ (IsS83.ge HI319.out) | refine below_set ?_ GE315.out | refine below_set ?_ GE326.out) | exact HB.out)⟩⟩
  ·replace c16 := Bool.eq_false_iff.mpr c16
   subst c16
   have H1 : (spec_DrawReserve.j0 k t316 t328 t329 t320 t323) = some (r1, r2, r3, r4, r5, r6) := by rw [if_neg (show ¬ (false = true) by decide)] at H; exact H
   clear H
   have H := H1
   clear H1
   have H' := Aside0.mk H
   clear H
   go_wp2
   go_meet
   case rel => exact ⟨_, (t328), (t329), (t320), H', ⟨by first | omega | exact Nat.le_refl _⟩, ⟨by (with_reducible repeat (first | refine blk_drewN ?_ _ | refine blk_drew ?_ | refine blk_alloc ?_ _)); exact BK315.out⟩, ⟨by (with_reducible repeat (first | refine blk_drewN ?_ _ | refine blk_drew ?_ | refine blk_alloc ?_ _)); exact BK326.out⟩, ⟨by repeat (first | (with_reducible first | exact HI319.out | apply IsS83.alloc | apply IsS83.drewN | apply IsS83.drew | apply IsS83.set_1 | apply IsS83.set_2 | refine IsS83.far ?_ NB319_315.out _ | refine IsS83.far ?_ NB319_326.out _) | exact HI319.out)⟩, ⟨by repeat (first | (with_reducible first | exact HB.out | apply below_alloc | apply pw_below_drewN | apply below_drew1 | refine below_set ?_ (IsS83.ge HI319.out) | refine below_set ?_ GE315.out | refine below_set ?_ GE326.out) | exact HB.out)⟩⟩
 case rest =>
  clear HC6
  try clear c1
  try clear c2
  try clear p2
  try clear c3
  try clear c4
  try clear c12
  try clear c13
  try clear c16
  try clear c22
  try clear c23
  try clear hcz14_0
  try clear hcz14_1
  try clear hcz24_0
  try clear hcz24_1
  try clear hfz14_0
  try clear hfz14_1
  try clear hfz24_0
  try clear hfz24_1
  obtain ⟨kq, x320001_5, x320002_5, x327000_5, HA, HJ5, BK315, BK326, HI319, HB⟩ := hcut
  cases kq with
  | zero => exact absurd HA.out (by simp [spec_DrawReserve.j0])
  | succ kj5 =>
   have H := HA.out
   clear HA
   simp only [spec_DrawReserve.j0] at H
   replace H := Option.bind_eq_some_iff.mp H
   obtain ⟨⟨t336, t339, t340⟩, A250, H⟩ := H
   replace H : ((spec_l1Below.f t316 t339 t340 3).bind fun bt341 => ((spec_l9DrawBegin.f kj5 t316 bt341.2.1 bt341.2.2).bind fun bt344 => ((spec_l1PickInt.f t316 bt344.2.1 bt344.2.2 (([1, 30, 100, 600, 3000, 86400, 86401, 0, 1000] : List Int))).bind fun bt350 => (some (x327000_5, t323, t336, bt341.1, bt344.1, bt350.1))))) = some (r1, r2, r3, r4, r5, r6) := H
   have A25 := Aside0.mk A250
   clear A250
   replace H := Option.bind_eq_some_iff.mp H
   obtain ⟨⟨t341, t342, t343⟩, A260, H⟩ := H
   replace H : ((spec_l9DrawBegin.f kj5 t316 t342 t343).bind fun bt344 => ((spec_l1PickInt.f t316 bt344.2.1 bt344.2.2 (([1, 30, 100, 600, 3000, 86400, 86401, 0, 1000] : List Int))).bind fun bt350 => (some (x327000_5, t323, t336, t341, bt344.1, bt350.1)))) = some (r1, r2, r3, r4, r5, r6) := H
   have A26 := Aside0.mk A260
   clear A260
   replace H := Option.bind_eq_some_iff.mp H
   obtain ⟨⟨t344, t345, t346⟩, A270, H⟩ := H
   replace H : ((spec_l1PickInt.f t316 t345 t346 (([1, 30, 100, 600, 3000, 86400, 86401, 0, 1000] : List Int))).bind fun bt350 => (some (x327000_5, t323, t336, t341, t344, bt350.1))) = some (r1, r2, r3, r4, r5, r6) := H
   have A27 := Aside0.mk A270
   clear A270
   obtain ⟨y347, hy347⟩ : ∃ y_ : List Int, y_ = (([1, 30, 100, 600, 3000, 86400, 86401, 0, 1000] : List Int)) := ⟨_, rfl⟩
   replace H : ((spec_l1PickInt.f t316 t345 t346 y347).bind fun bt350 => (some (x327000_5, t323, t336, t341, t344, bt350.1))) = some (r1, r2, r3, r4, r5, r6) := by first | (rw [hy347]; with_reducible exact H) | (have H2_ := (Option.bind_some _ _).symm.trans H; rw [hy347]; with_reducible exact H2_) | (have H2_ := (Option.bind_some _ _).symm.trans H; with_reducible exact H2_) | with_reducible exact H | (rw [hy347]; exact H) | exact H
   have Ny347 := Aside0.mk hy347
   clear hy347
   replace H := Option.bind_eq_some_iff.mp H
   obtain ⟨⟨t350, t351, t352⟩, A280, H⟩ := H
   replace H : (some (x327000_5, t323, t336, t341, t344, t350)) = some (r1, r2, r3, r4, r5, r6) := H
   have A28 := Aside0.mk A280
   clear A280
   simp only [Option.some.injEq, Prod.mk.injEq] at H
   obtain ⟨rfl, rfl, rfl, rfl, rfl, rfl⟩ := H
   try go_wp2
   have n0_ := Aside0.mk (blk_drew BK315.out)
   have n1_ := Aside0.mk (blk_drew BK326.out)
   have n2_ := Aside0.mk (IsS83.drew HI319.out)
   have n3_ := Aside0.mk (below_drew1 HB.out)
   clear BK315
   clear BK326
   clear HI319
   clear HB
   have BK315 := n0_
   have BK326 := n1_
   have HI319 := n2_
   have HB := n3_
   clear n0_ n1_ n2_ n3_
   refine start_ (n := 15) (S := fun w' => True) (ds := []) #[false, false, false, false, false, false, false, false, false, false, false, false, false, false, false] (by kernel_rfl) rfl rfl trivial (fun hHeld => ?_); refine with_tabW spec_DrawReserve.tab5 spec_DrawReserve.bits5 (fun HT_ HW_ => ?_)
   generalize wc.drew = w29 at BK315 BK326 HI319 HB hHeld ⊢
   refine pure_ (i := 1) (N := some 23) (v := ?_) (a' := ?_) #[false, true, false, false, false, false, false, false, false, false, false, false, false, false, false] rfl rfl (any_of HT_.out (by kernel_rfl)) (fun _ _ _ h => h) (Or.inl ⟨by rfl, ?_⟩) ?_ ?_
   rotate_left
   ·intro w'
    go_simp
    with_reducible rfl
   rotate_left
   ·simp only [Act.put, List.setIfInBounds_toArray, List.set_cons_zero, List.set_cons_succ, i64_w, i32_w]
    rfl
   refine pure_ (i := 3) (N := some 25) (v := ?_) (a' := ?_) #[false, true, false, true, false, false, false, false, false, false, false, false, false, false, false] rfl rfl (any_of HT_.out (by kernel_rfl)) (fun _ _ _ h => h) (Or.inl ⟨by rfl, ?_⟩) ?_ ?_
   rotate_left
   ·intro w'
    go_simp
    with_reducible rfl
   rotate_left
   ·simp only [Act.put, List.setIfInBounds_toArray, List.set_cons_zero, List.set_cons_succ, i64_w, i32_w]
    rfl
   refine pure_ (i := 5) (N := some 27) (v := ?_) (a' := ?_) #[false, true, false, true, false, true, false, false, false, false, false, false, false, false, false] rfl rfl (any_of HT_.out (by kernel_rfl)) (fun _ _ _ h => h) (Or.inl ⟨by rfl, ?_⟩) ?_ ?_
   rotate_left
   ·intro w'
    go_simp
    with_reducible rfl
   rotate_left
   ·simp only [Act.put, List.setIfInBounds_toArray, List.set_cons_zero, List.set_cons_succ, i64_w, i32_w]
    rfl
   refine pure_ (i := 7) (N := some 29) (v := ?_) (a' := ?_) #[false, true, false, true, false, true, false, true, false, false, false, false, false, false, false] rfl rfl (any_of HT_.out (by kernel_rfl)) (fun _ _ _ h => h) (Or.inl ⟨by rfl, ?_⟩) ?_ ?_
   rotate_left
   ·intro w'
    go_simp
    with_reducible rfl
   rotate_left
   ·simp only [Act.put, List.setIfInBounds_toArray, List.set_cons_zero, List.set_cons_succ, i64_w, i32_w]
    rfl
   refine inv_at [0, 2, 4, 6, 8, 9, 10, 11, 12, 13, 14] (fun a0_ b a w' => ∃ (v337 : Value) (v348 : Value) (m11_ : Value), a = putSel a0_ b [(0, 22, .agg #[.int .i64 x327000_5, .int .i64 t323]), (2, 24, v337), (4, 26, .int .i64 t341), (6, 28, .int .i64 t344), (8, 30, v348), (9, 31, .int .i64 t350), (11, 3, m11_), (12, 4, .int .i64 t341), (13, 5, .int .i64 t344), (14, 6, .int .i64 t350)] ∧ (b 10 = false → w'.heap[gb315]? = some (.cells #[.int .i64 0, .int .i64 0] 24 (0, 0))) ∧ (w'.heap[gb326]? = some (.cells #[.int .i64 x327000_5, .int .i64 t323] 24 (0, 0))) ∧ (b 2 = false → IsS83 w w' g319 t316 x320001_5 x320002_5) ∧ (Below w.heap.size w w') ∧ (b 2 = true → Kd.R k60 60 w' w.heap.size (fun _ => True) v337 t336) ∧ (b 2 = true → b 4 = false → IsS83 w w' g319 t316 t339 t340) ∧ (b 4 = true → b 6 = false → IsS83 w w' g319 t316 t342 t343) ∧ (b 6 = true → b 9 = false → IsS83 w w' g319 t316 t345 t346) ∧ (b 8 = true → Kd.R (Kd.int .i64) 3 w' w.heap.size (fun _ => True) v348 y347) ∧ (b 9 = true → IsS83 w w' g319 t316 t351 t352) ∧ (b 10 = true → w'.heap[gb315]? = some (.cells #[.int .i64 x327000_5, .int .i64 t323] 24 (0, 0))) ∧ (b 11 = true → (m11_ : Value) = v337)) HT_.out HW_.out (by kernel_rfl) (by kernel_rfl) ?_ ?_ ?_
   ·exact ⟨.bool false, .bool false, .bool false, by simp only [putSel, Bool.false_eq_true, if_false], fun _ => BK315.out, BK326.out, fun _ => HI319.out, HB.out, fun h_ => absurd h_ (by decide), fun h_ => absurd h_ (by decide), fun h_ => absurd h_ (by decide), fun h_ => absurd h_ (by decide), fun h_ => absurd h_ (by decide), fun h_ => absurd h_ (by decide), fun h_ => absurd h_ (by decide), fun h_ => absurd h_ (by decide)⟩
   ·skip
    clear BK315 BK326 HB HI319
    refine steps_cons ?_ ?_
    ·rintro b a w' ⟨v337, v348, m11_, ha, Q_BK315, Q_BK326, Q_HI319, Q_HB, Q_HO338, Q_HI319_e2, Q_HI319_e4, Q_HI319_e6, Q_HO349, Q_HI319_e9, Q_BK315_e10, Q_X11_⟩ hb_ hon hoff
     refine ⟨_, rfl, fun K hK => ?_⟩
     have e8 : a.tmps[8]? = some (.pointer (some ⟨gb326, 0, none⟩)) := by rw [ha]; exact (putSel_off rfl).trans rfl
     replace ha := Aside0.mk ha
     have BK315 := Aside0.mk (Q_BK315 (hoff 10 (by kernel_rfl)))
     have BK326 := Aside0.mk Q_BK326
     have HB := Aside0.mk Q_HB
     have hc0_ : w'.cell? ⟨gb326, 0, none⟩ = some (.int .i64 x327000_5) := (blk_cell BK326.out 0).trans rfl
     have hc1_ : w'.cell? ⟨gb326, 1, none⟩ = some (.int .i64 t323) := (blk_cell BK326.out 1).trans rfl
     refine value_ (w1 := w') (v := .agg #[.int .i64 x327000_5, .int .i64 t323]) (by rfl) rfl ?_ ?_
     ·go_simp
      (try simp only [i64_w])
      try rfl
     refine hK.out _ _ ⟨v337, v348, m11_, (by rw [ha.out]; exact putSel_upk 0 hb_ rfl rfl rfl), Q_BK315, Q_BK326, Q_HI319, Q_HB, Q_HO338, Q_HI319_e2, Q_HI319_e4, Q_HI319_e6, Q_HO349, Q_HI319_e9, fun h0_ => absurd ((hoff 10 (by kernel_rfl)).symm.trans h0_) (by decide), fun h0_ => absurd ((hoff 11 (by kernel_rfl)).symm.trans h0_) (by decide)⟩
    refine steps_cons ?_ ?_
    ·rintro b a w' ⟨v337, v348, m11_, ha, Q_BK315, Q_BK326, Q_HI319, Q_HB, Q_HO338, Q_HI319_e2, Q_HI319_e4, Q_HI319_e6, Q_HO349, Q_HI319_e9, Q_BK315_e10, Q_X11_⟩ hb_ hon hoff
     refine ⟨_, rfl, fun K hK => ?_⟩
     have e23 : a.tmps[23]? = some (.pointer (some ⟨g319, 0, none⟩)) := by rw [ha]; exact (putSel_off rfl).trans rfl
     replace ha := Aside0.mk ha
     have BK315 := Aside0.mk (Q_BK315 (hoff 10 (by kernel_rfl)))
     have BK326 := Aside0.mk Q_BK326
     have HI319 := Aside0.mk (Q_HI319 hb_)
     have HB := Aside0.mk Q_HB
     refine goes_ Try.func49 (by kernel_rfl) rfl #[.pointer (some ⟨g319, 0, none⟩)] (by rfl) rfl rfl (by first | (simp only [List.map_toArray, List.map_cons, List.map_nil, Act.eval, Array.getD_eq_getD_getElem?, Option.getD_some, e23]; done) | (simp only [List.map_toArray, List.map_cons, List.map_nil, Act.eval, Array.getD_eq_getD_getElem?, Option.getD_some, e23]; rfl)) ?_
     with_reducible refine (spec_l9DrawAny.calls kj5 g319 t316 x320001_5 x320002_5 t336 t339 t340 w _ ?side1 ?side2 A25.out).mono ?_
     (case side1 => repeat (first | (with_reducible first | exact HI319.out | apply IsS83.alloc | apply IsS83.drewN | apply IsS83.drew | apply IsS83.set_1 | apply IsS83.set_2 | refine IsS83.far ?_ NB319_315.out _ | refine IsS83.far ?_ NB319_326.out _) | exact HI319.out))
     (case side2 => repeat (first | (with_reducible first | exact HB.out | apply below_alloc | apply pw_below_drewN | apply below_drew1 | refine below_set ?_ (IsS83.ge HI319.out) | refine below_set ?_ GE315.out | refine below_set ?_ GE326.out) | exact HB.out))
     rintro e w30 ⟨v337, rfl, ho0, hi, hb, hk⟩
     refine ⟨_, rfl, ?_⟩
     have n0_ := Aside0.mk (KeepBut.blk hk (g' := gb315) (o := .cells #[.int .i64 0, .int .i64 0] 24 (0, 0)) blkNow NB315_319.out (by simp))
     have n1_ := Aside0.mk (KeepBut.blk hk (g' := gb326) (o := .cells #[.int .i64 x327000_5, .int .i64 t323] 24 (0, 0)) blkNow NB326_319.out (by simp))
     have n2_ := Aside0.mk (Kd.R_lower ho0 (below_size (by repeat (first | (with_reducible first | exact HB.out | apply below_alloc | apply pw_below_drewN | apply below_drew1 | refine below_set ?_ (IsS83.ge HI319.out) | refine below_set ?_ GE315.out | refine below_set ?_ GE326.out) | exact HB.out))))
     have n3_ := Aside0.mk (hb)
     have n4_ := Aside0.mk (hi)
     have z_HO349 := fun (h0_ : b 8 = true) => (show Kd.R (Kd.int .i64) 3 w30 w.heap.size (fun _ => True) v348 y347 from by first | exact (Kd.R_mono (Kd.R_keep (IsS83.apart (show IsS83 w _ g319 t316 x320001_5 x320002_5 from by repeat (first | (with_reducible first | exact HI319.out | apply IsS83.alloc | apply IsS83.drewN | apply IsS83.drew | apply IsS83.set_1 | apply IsS83.set_2 | refine IsS83.far ?_ NB319_315.out _ | refine IsS83.far ?_ NB319_326.out _) | exact HI319.out)) (by (with_reducible repeat (first | apply Kd.R_alloc | apply Kd.R_drewN | apply Kd.R_drew)); exact (Q_HO349 h0_)) (by decide)) hk (fun _ h => h.2)) (fun _ h => h.1)) | exact Kd.R_mono (Kd.R_mono (Kd.R_keep (IsS83.apart (show IsS83 w _ g319 t316 x320001_5 x320002_5 from by repeat (first | (with_reducible first | exact HI319.out | apply IsS83.alloc | apply IsS83.drewN | apply IsS83.drew | apply IsS83.set_1 | apply IsS83.set_2 | refine IsS83.far ?_ NB319_315.out _ | refine IsS83.far ?_ NB319_326.out _) | exact HI319.out)) (by (with_reducible repeat (first | apply Kd.R_alloc | apply Kd.R_drewN | apply Kd.R_drew)); exact (Q_HO349 h0_)) (by decide)) hk (fun _ h => h.2)) (fun _ h => h.1)) (fun _ h_ => by first | trivial | exact h_ | exact h_.1))
     clear BK315
     clear BK326
     clear HB
     clear HI319
     have BK315 := n0_
     have BK326 := n1_
     have HO338 := n2_
     have HB := n3_
     have HI319 := n4_
     clear n0_ n1_ n2_ n3_ n4_
     (try clear hb)
     (try clear hb2)
     (try clear hk)
     (try clear hi)
     (try clear ho0)
     refine hK.out _ _ ⟨v337, v348, m11_, (by rw [ha.out]; exact putSel_upk 1 hb_ rfl rfl rfl), fun _ => blkNow, blkNow, fun h0_ => absurd ((up_self b 2).symm.trans h0_) (by decide), (by repeat (first | (with_reducible first | exact HB.out | apply below_alloc | apply pw_below_drewN | apply below_drew1 | refine below_set ?_ (IsS83.ge HI319.out) | refine below_set ?_ GE315.out | refine below_set ?_ GE326.out) | exact HB.out)), fun _ => (by (with_reducible repeat (first | apply Kd.R_alloc | apply Kd.R_drewN | apply Kd.R_drew)); exact HO338.out), fun _ _ => (by repeat (first | (with_reducible first | exact HI319.out | apply IsS83.alloc | apply IsS83.drewN | apply IsS83.drew | apply IsS83.set_1 | apply IsS83.set_2 | refine IsS83.far ?_ NB319_315.out _ | refine IsS83.far ?_ NB319_326.out _) | exact HI319.out)), fun h0_ _ => absurd ((hoff 4 (by kernel_rfl)).symm.trans h0_) (by decide), fun h0_ _ => absurd ((hoff 6 (by kernel_rfl)).symm.trans h0_) (by decide), z_HO349, fun h0_ => absurd ((hoff 9 (by kernel_rfl)).symm.trans h0_) (by decide), fun h0_ => absurd ((hoff 10 (by kernel_rfl)).symm.trans h0_) (by decide), fun h0_ => absurd ((hoff 11 (by kernel_rfl)).symm.trans h0_) (by decide)⟩
    refine steps_cons ?_ ?_
    ·rintro b a w' ⟨v337, v348, m11_, ha, Q_BK315, Q_BK326, Q_HI319, Q_HB, Q_HO338, Q_HI319_e2, Q_HI319_e4, Q_HI319_e6, Q_HO349, Q_HI319_e9, Q_BK315_e10, Q_X11_⟩ hb_ hon hoff
     refine ⟨_, rfl, fun K hK => ?_⟩
     have e25 : a.tmps[25]? = some (.pointer (some ⟨g319, 0, none⟩)) := by rw [ha]; exact (putSel_off rfl).trans rfl
     replace ha := Aside0.mk ha
     have BK315 := Aside0.mk (Q_BK315 (hoff 10 (by kernel_rfl)))
     have BK326 := Aside0.mk Q_BK326
     have HB := Aside0.mk Q_HB
     have HO338 := Aside0.mk (Q_HO338 (hon 2 (by kernel_rfl)))
     have HI319 := Aside0.mk (Q_HI319_e2 (hon 2 (by kernel_rfl)) hb_)
     refine goes_ Try.func46 (by kernel_rfl) rfl #[.pointer (some ⟨g319, 0, none⟩), .int .i64 3] (by rfl) rfl rfl (by first | (simp only [List.map_toArray, List.map_cons, List.map_nil, Act.eval, Array.getD_eq_getD_getElem?, Option.getD_some, e25]; done) | (simp only [List.map_toArray, List.map_cons, List.map_nil, Act.eval, Array.getD_eq_getD_getElem?, Option.getD_some, e25]; rfl)) ?_
     with_reducible refine (spec_l1Below.calls g319 t316 t339 t340 3 t341 t342 t343 w _ ?side1 ?side2 A26.out).mono ?_
     (case side1 => repeat (first | (with_reducible first | exact HI319.out | apply IsS83.alloc | apply IsS83.drewN | apply IsS83.drew | apply IsS83.set_1 | apply IsS83.set_2 | refine IsS83.far ?_ NB319_315.out _ | refine IsS83.far ?_ NB319_326.out _) | exact HI319.out))
     (case side2 => repeat (first | (with_reducible first | exact HB.out | apply below_alloc | apply pw_below_drewN | apply below_drew1 | refine below_set ?_ (IsS83.ge HI319.out) | refine below_set ?_ GE315.out | refine below_set ?_ GE326.out) | exact HB.out))
     rintro e w32 ⟨rfl, hi, hb, hk⟩
     refine ⟨_, rfl, ?_⟩
     have n0_ := Aside0.mk (KeepBut.blk hk (g' := gb315) (o := .cells #[.int .i64 0, .int .i64 0] 24 (0, 0)) blkNow NB315_319.out (by simp))
     have n1_ := Aside0.mk (KeepBut.blk hk (g' := gb326) (o := .cells #[.int .i64 x327000_5, .int .i64 t323] 24 (0, 0)) blkNow NB326_319.out (by simp))
     have n2_ := Aside0.mk (Kd.R_mono (Kd.R_keep (IsS83.apart (show IsS83 w _ g319 t316 t339 t340 from by repeat (first | (with_reducible first | exact HI319.out | apply IsS83.alloc | apply IsS83.drewN | apply IsS83.drew | apply IsS83.set_1 | apply IsS83.set_2 | refine IsS83.far ?_ NB319_315.out _ | refine IsS83.far ?_ NB319_326.out _) | exact HI319.out)) (by (with_reducible repeat (first | apply Kd.R_alloc | apply Kd.R_drewN | apply Kd.R_drew)); exact HO338.out) (by decide)) hk (fun _ h => h.2)) (fun _ h => h.1))
     have n3_ := Aside0.mk (hb)
     have n4_ := Aside0.mk (hi)
     have z_HO349 := fun (h0_ : b 8 = true) => (show Kd.R (Kd.int .i64) 3 w32 w.heap.size (fun _ => True) v348 y347 from by first | exact (Kd.R_mono (Kd.R_keep (IsS83.apart (show IsS83 w _ g319 t316 t339 t340 from by repeat (first | (with_reducible first | exact HI319.out | apply IsS83.alloc | apply IsS83.drewN | apply IsS83.drew | apply IsS83.set_1 | apply IsS83.set_2 | refine IsS83.far ?_ NB319_315.out _ | refine IsS83.far ?_ NB319_326.out _) | exact HI319.out)) (by (with_reducible repeat (first | apply Kd.R_alloc | apply Kd.R_drewN | apply Kd.R_drew)); exact (Q_HO349 h0_)) (by decide)) hk (fun _ h => h.2)) (fun _ h => h.1)) | exact Kd.R_mono (Kd.R_mono (Kd.R_keep (IsS83.apart (show IsS83 w _ g319 t316 t339 t340 from by repeat (first | (with_reducible first | exact HI319.out | apply IsS83.alloc | apply IsS83.drewN | apply IsS83.drew | apply IsS83.set_1 | apply IsS83.set_2 | refine IsS83.far ?_ NB319_315.out _ | refine IsS83.far ?_ NB319_326.out _) | exact HI319.out)) (by (with_reducible repeat (first | apply Kd.R_alloc | apply Kd.R_drewN | apply Kd.R_drew)); exact (Q_HO349 h0_)) (by decide)) hk (fun _ h => h.2)) (fun _ h => h.1)) (fun _ h_ => by first | trivial | exact h_ | exact h_.1))
     clear BK315
     clear BK326
     clear HO338
     clear HB
     clear HI319
     have BK315 := n0_
     have BK326 := n1_
     have HO338 := n2_
     have HB := n3_
     have HI319 := n4_
     clear n0_ n1_ n2_ n3_ n4_
     (try clear hb)
     (try clear hb2)
     (try clear hk)
     (try clear hi)
     refine hK.out _ _ ⟨v337, v348, m11_, (by rw [ha.out]; exact putSel_upk 2 hb_ rfl rfl rfl), fun _ => blkNow, blkNow, fun h0_ => absurd ((hon 2 (by kernel_rfl)).symm.trans h0_) (by decide), (by repeat (first | (with_reducible first | exact HB.out | apply below_alloc | apply pw_below_drewN | apply below_drew1 | refine below_set ?_ (IsS83.ge HI319.out) | refine below_set ?_ GE315.out | refine below_set ?_ GE326.out) | exact HB.out)), fun _ => (by (with_reducible repeat (first | apply Kd.R_alloc | apply Kd.R_drewN | apply Kd.R_drew)); exact HO338.out), fun _ h1_ => absurd ((up_self b 4).symm.trans h1_) (by decide), fun _ _ => (by repeat (first | (with_reducible first | exact HI319.out | apply IsS83.alloc | apply IsS83.drewN | apply IsS83.drew | apply IsS83.set_1 | apply IsS83.set_2 | refine IsS83.far ?_ NB319_315.out _ | refine IsS83.far ?_ NB319_326.out _) | exact HI319.out)), fun h0_ _ => absurd ((hoff 6 (by kernel_rfl)).symm.trans h0_) (by decide), z_HO349, fun h0_ => absurd ((hoff 9 (by kernel_rfl)).symm.trans h0_) (by decide), fun h0_ => absurd ((hoff 10 (by kernel_rfl)).symm.trans h0_) (by decide), fun h0_ => absurd ((hoff 11 (by kernel_rfl)).symm.trans h0_) (by decide)⟩
    refine steps_cons ?_ ?_
    ·rintro b a w' ⟨v337, v348, m11_, ha, Q_BK315, Q_BK326, Q_HI319, Q_HB, Q_HO338, Q_HI319_e2, Q_HI319_e4, Q_HI319_e6, Q_HO349, Q_HI319_e9, Q_BK315_e10, Q_X11_⟩ hb_ hon hoff
     refine ⟨_, rfl, fun K hK => ?_⟩
     have e27 : a.tmps[27]? = some (.pointer (some ⟨g319, 0, none⟩)) := by rw [ha]; exact (putSel_off rfl).trans rfl
     replace ha := Aside0.mk ha
     have BK315 := Aside0.mk (Q_BK315 (hoff 10 (by kernel_rfl)))
     have BK326 := Aside0.mk Q_BK326
     have HB := Aside0.mk Q_HB
     have HO338 := Aside0.mk (Q_HO338 (hon 2 (by kernel_rfl)))
     have HI319 := Aside0.mk (Q_HI319_e4 (hon 4 (by kernel_rfl)) hb_)
     refine goes_ Try.func50 (by kernel_rfl) rfl #[.pointer (some ⟨g319, 0, none⟩)] (by rfl) rfl rfl (by first | (simp only [List.map_toArray, List.map_cons, List.map_nil, Act.eval, Array.getD_eq_getD_getElem?, Option.getD_some, e27]; done) | (simp only [List.map_toArray, List.map_cons, List.map_nil, Act.eval, Array.getD_eq_getD_getElem?, Option.getD_some, e27]; rfl)) ?_
     with_reducible refine (spec_l9DrawBegin.calls kj5 g319 t316 t342 t343 t344 t345 t346 w _ ?side1 ?side2 A27.out).mono ?_
     (case side1 => repeat (first | (with_reducible first | exact HI319.out | apply IsS83.alloc | apply IsS83.drewN | apply IsS83.drew | apply IsS83.set_1 | apply IsS83.set_2 | refine IsS83.far ?_ NB319_315.out _ | refine IsS83.far ?_ NB319_326.out _) | exact HI319.out))
     (case side2 => repeat (first | (with_reducible first | exact HB.out | apply below_alloc | apply pw_below_drewN | apply below_drew1 | refine below_set ?_ (IsS83.ge HI319.out) | refine below_set ?_ GE315.out | refine below_set ?_ GE326.out) | exact HB.out))
     rintro e w33 ⟨rfl, hi, hb, hk⟩
     refine ⟨_, rfl, ?_⟩
     have n0_ := Aside0.mk (KeepBut.blk hk (g' := gb315) (o := .cells #[.int .i64 0, .int .i64 0] 24 (0, 0)) blkNow NB315_319.out (by simp))
     have n1_ := Aside0.mk (KeepBut.blk hk (g' := gb326) (o := .cells #[.int .i64 x327000_5, .int .i64 t323] 24 (0, 0)) blkNow NB326_319.out (by simp))
     have n2_ := Aside0.mk (Kd.R_mono (Kd.R_keep (IsS83.apart (show IsS83 w _ g319 t316 t342 t343 from by repeat (first | (with_reducible first | exact HI319.out | apply IsS83.alloc | apply IsS83.drewN | apply IsS83.drew | apply IsS83.set_1 | apply IsS83.set_2 | refine IsS83.far ?_ NB319_315.out _ | refine IsS83.far ?_ NB319_326.out _) | exact HI319.out)) (by (with_reducible repeat (first | apply Kd.R_alloc | apply Kd.R_drewN | apply Kd.R_drew)); exact HO338.out) (by decide)) hk (fun _ h => h.2)) (fun _ h => h.1))
     have n3_ := Aside0.mk (hb)
     have n4_ := Aside0.mk (hi)
     have z_HO349 := fun (h0_ : b 8 = true) => (show Kd.R (Kd.int .i64) 3 w33 w.heap.size (fun _ => True) v348 y347 from by first | exact (Kd.R_mono (Kd.R_keep (IsS83.apart (show IsS83 w _ g319 t316 t342 t343 from by repeat (first | (with_reducible first | exact HI319.out | apply IsS83.alloc | apply IsS83.drewN | apply IsS83.drew | apply IsS83.set_1 | apply IsS83.set_2 | refine IsS83.far ?_ NB319_315.out _ | refine IsS83.far ?_ NB319_326.out _) | exact HI319.out)) (by (with_reducible repeat (first | apply Kd.R_alloc | apply Kd.R_drewN | apply Kd.R_drew)); exact (Q_HO349 h0_)) (by decide)) hk (fun _ h => h.2)) (fun _ h => h.1)) | exact Kd.R_mono (Kd.R_mono (Kd.R_keep (IsS83.apart (show IsS83 w _ g319 t316 t342 t343 from by repeat (first | (with_reducible first | exact HI319.out | apply IsS83.alloc | apply IsS83.drewN | apply IsS83.drew | apply IsS83.set_1 | apply IsS83.set_2 | refine IsS83.far ?_ NB319_315.out _ | refine IsS83.far ?_ NB319_326.out _) | exact HI319.out)) (by (with_reducible repeat (first | apply Kd.R_alloc | apply Kd.R_drewN | apply Kd.R_drew)); exact (Q_HO349 h0_)) (by decide)) hk (fun _ h => h.2)) (fun _ h => h.1)) (fun _ h_ => by first | trivial | exact h_ | exact h_.1))
     clear BK315
     clear BK326
     clear HO338
     clear HB
     clear HI319
     have BK315 := n0_
     have BK326 := n1_
     have HO338 := n2_
     have HB := n3_
     have HI319 := n4_
     clear n0_ n1_ n2_ n3_ n4_
     (try clear hb)
     (try clear hb2)
     (try clear hk)
     (try clear hi)
     refine hK.out _ _ ⟨v337, v348, m11_, (by rw [ha.out]; exact putSel_upk 3 hb_ rfl rfl rfl), fun _ => blkNow, blkNow, fun h0_ => absurd ((hon 2 (by kernel_rfl)).symm.trans h0_) (by decide), (by repeat (first | (with_reducible first | exact HB.out | apply below_alloc | apply pw_below_drewN | apply below_drew1 | refine below_set ?_ (IsS83.ge HI319.out) | refine below_set ?_ GE315.out | refine below_set ?_ GE326.out) | exact HB.out)), fun _ => (by (with_reducible repeat (first | apply Kd.R_alloc | apply Kd.R_drewN | apply Kd.R_drew)); exact HO338.out), fun _ h1_ => absurd ((hon 4 (by kernel_rfl)).symm.trans h1_) (by decide), fun _ h1_ => absurd ((up_self b 6).symm.trans h1_) (by decide), fun _ _ => (by repeat (first | (with_reducible first | exact HI319.out | apply IsS83.alloc | apply IsS83.drewN | apply IsS83.drew | apply IsS83.set_1 | apply IsS83.set_2 | refine IsS83.far ?_ NB319_315.out _ | refine IsS83.far ?_ NB319_326.out _) | exact HI319.out)), z_HO349, fun h0_ => absurd ((hoff 9 (by kernel_rfl)).symm.trans h0_) (by decide), fun h0_ => absurd ((hoff 10 (by kernel_rfl)).symm.trans h0_) (by decide), fun h0_ => absurd ((hoff 11 (by kernel_rfl)).symm.trans h0_) (by decide)⟩
    refine steps_cons ?_ ?_
    ·rintro b a w' ⟨v337, v348, m11_, ha, Q_BK315, Q_BK326, Q_HI319, Q_HB, Q_HO338, Q_HI319_e2, Q_HI319_e4, Q_HI319_e6, Q_HO349, Q_HI319_e9, Q_BK315_e10, Q_X11_⟩ hb_ hon hoff
     refine ⟨_, rfl, fun K hK => ?_⟩
     replace ha := Aside0.mk ha
     have BK315 := Aside0.mk (Q_BK315 (hoff 10 (by kernel_rfl)))
     have BK326 := Aside0.mk Q_BK326
     have HB := Aside0.mk Q_HB
     refine Kd.R_lit_step (Kd.int .i64) _ 3 ?hg (N := 30) ?hd (xs := ([1, 30, 100, 600, 3000, 86400, 86401, 0, 1000] : List Int)) (inner := [.int .i64 1, .int .i64 30, .int .i64 100, .int .i64 600, .int .i64 3000, .int .i64 86400, .int .i64 86401, .int .i64 0, .int .i64 1000]) (ok := fun _ => True) (okp := fun _ => True) ?hr ?hp (fun _ hk => hk) trivial (Below.refl _ _) (Nat.le_refl _) (by simp) ?_; (case hd => rfl); (case hg => rfl); (case hr => first | (go_simp; done) | (go_simp; rfl)); (case hp => exact (Reps.one (show Kd.M (Kd.int .i64) _ _ _ 1 [.int .i64 1] from rfl) (Reps.one (show Kd.M (Kd.int .i64) _ _ _ 30 [.int .i64 30] from rfl) (Reps.one (show Kd.M (Kd.int .i64) _ _ _ 100 [.int .i64 100] from rfl) (Reps.one (show Kd.M (Kd.int .i64) _ _ _ 600 [.int .i64 600] from rfl) (Reps.one (show Kd.M (Kd.int .i64) _ _ _ 3000 [.int .i64 3000] from rfl) (Reps.one (show Kd.M (Kd.int .i64) _ _ _ 86400 [.int .i64 86400] from rfl) (Reps.one (show Kd.M (Kd.int .i64) _ _ _ 86401 [.int .i64 86401] from rfl) (Reps.one (show Kd.M (Kd.int .i64) _ _ _ 0 [.int .i64 0] from rfl) (Reps.one (show Kd.M (Kd.int .i64) _ _ _ 1000 [.int .i64 1000] from rfl) (Reps.none _ _)))))))))))
     intro v348 w30 ho31 hb hg_ hnew_
     clear hg_ hnew_
     (first | rw [← Ny347.out] at ho31 | (simp only [Int.reduceToNat] at ho31; rw [← Ny347.out] at ho31))
     have n0_ := Aside0.mk (Kd.R_lower ho31 (below_size belowNow))
     have n1_ := Aside0.mk (blk_below (g := gb315) (o := .cells #[.int .i64 0, .int .i64 0] 24 (0, 0)) blkNow hb)
     have n2_ := Aside0.mk (blk_below (g := gb326) (o := .cells #[.int .i64 x327000_5, .int .i64 t323] 24 (0, 0)) blkNow hb)
     have n4_ := Aside0.mk (below_step belowNow hb)
     have z_HI319 := fun (h0_ : b 2 = false) => (show IsS83 w w30 g319 t316 x320001_5 x320002_5 from by first | exact (IsS83.below (by repeat (first | (with_reducible first | exact (Q_HI319 h0_) | apply IsS83.alloc | apply IsS83.drewN | apply IsS83.drew | apply IsS83.set_1 | apply IsS83.set_2 | refine IsS83.far ?_ NB319_315.out _ | refine IsS83.far ?_ NB319_326.out _) | exact (Q_HI319 h0_))) hb))
     have z_HO338 := fun (h0_ : b 2 = true) => (show Kd.R k60 60 w30 w.heap.size (fun _ => True) v337 t336 from by first | exact (Kd.R_below (by (with_reducible repeat (first | apply Kd.R_alloc | apply Kd.R_drewN | apply Kd.R_drew)); exact (Q_HO338 h0_)) hb) | exact Kd.R_mono (Kd.R_below (by (with_reducible repeat (first | apply Kd.R_alloc | apply Kd.R_drewN | apply Kd.R_drew)); exact (Q_HO338 h0_)) hb) (fun _ h_ => by first | trivial | exact h_ | exact h_.1))
     have z_HI319_e2 := fun (h0_ : b 2 = true) (h1_ : b 4 = false) => (show IsS83 w w30 g319 t316 t339 t340 from by first | exact (IsS83.below (by repeat (first | (with_reducible first | exact (Q_HI319_e2 h0_ h1_) | apply IsS83.alloc | apply IsS83.drewN | apply IsS83.drew | apply IsS83.set_1 | apply IsS83.set_2 | refine IsS83.far ?_ NB319_315.out _ | refine IsS83.far ?_ NB319_326.out _) | exact (Q_HI319_e2 h0_ h1_))) hb))
     have z_HI319_e4 := fun (h0_ : b 4 = true) (h1_ : b 6 = false) => (show IsS83 w w30 g319 t316 t342 t343 from by first | exact (IsS83.below (by repeat (first | (with_reducible first | exact (Q_HI319_e4 h0_ h1_) | apply IsS83.alloc | apply IsS83.drewN | apply IsS83.drew | apply IsS83.set_1 | apply IsS83.set_2 | refine IsS83.far ?_ NB319_315.out _ | refine IsS83.far ?_ NB319_326.out _) | exact (Q_HI319_e4 h0_ h1_))) hb))
     have z_HI319_e6 := fun (h0_ : b 6 = true) (h1_ : b 9 = false) => (show IsS83 w w30 g319 t316 t345 t346 from by first | exact (IsS83.below (by repeat (first | (with_reducible first | exact (Q_HI319_e6 h0_ h1_) | apply IsS83.alloc | apply IsS83.drewN | apply IsS83.drew | apply IsS83.set_1 | apply IsS83.set_2 | refine IsS83.far ?_ NB319_315.out _ | refine IsS83.far ?_ NB319_326.out _) | exact (Q_HI319_e6 h0_ h1_))) hb))
     clear BK315
     clear BK326
     clear HB
     have HO349 := n0_
     have BK315 := n1_
     have BK326 := n2_
     have HB := n4_
     clear n0_ n1_ n2_ n4_
     clear hb ho31
     refine hK.out _ _ ⟨v337, v348, m11_, (by rw [ha.out]; exact putSel_upk 4 hb_ rfl rfl rfl), fun _ => blkNow, blkNow, z_HI319, belowNow, z_HO338, z_HI319_e2, z_HI319_e4, z_HI319_e6, fun _ => (by (with_reducible repeat (first | apply Kd.R_alloc | apply Kd.R_drewN | apply Kd.R_drew)); exact HO349.out), fun h0_ => absurd ((hoff 9 (by kernel_rfl)).symm.trans h0_) (by decide), fun h0_ => absurd ((hoff 10 (by kernel_rfl)).symm.trans h0_) (by decide), fun h0_ => absurd ((hoff 11 (by kernel_rfl)).symm.trans h0_) (by decide)⟩
    refine steps_cons ?_ ?_
    ·rintro b a w' ⟨v337, v348, m11_, ha, Q_BK315, Q_BK326, Q_HI319, Q_HB, Q_HO338, Q_HI319_e2, Q_HI319_e4, Q_HI319_e6, Q_HO349, Q_HI319_e9, Q_BK315_e10, Q_X11_⟩ hb_ hon hoff
     refine ⟨_, rfl, fun K hK => ?_⟩
     have e29 : a.tmps[29]? = some (.pointer (some ⟨g319, 0, none⟩)) := by rw [ha]; exact (putSel_off rfl).trans rfl
     have e30 : a.tmps[30]? = some (v348) := by rw [ha]; exact putSel_on (e := (8, 30, v348)) 4 rfl rfl (hon 8 (by kernel_rfl)) rfl
     replace ha := Aside0.mk ha
     have BK315 := Aside0.mk (Q_BK315 (hoff 10 (by kernel_rfl)))
     have BK326 := Aside0.mk Q_BK326
     have HB := Aside0.mk Q_HB
     have HO338 := Aside0.mk (Q_HO338 (hon 2 (by kernel_rfl)))
     have HI319 := Aside0.mk (Q_HI319_e6 (hon 6 (by kernel_rfl)) hb_)
     have HO349 := Aside0.mk (Q_HO349 (hon 8 (by kernel_rfl)))
     obtain ⟨Ao36, co36, eo36⟩ := Kd.R_slice HO349.out
     (first | subst eo36 | (injection eo36 with f1_ f2_ f3_; have f4_ := f1_.symm; have f5_ := f3_.symm; clear f1_ f2_ f3_; subst f4_; subst f5_))
     refine goes_ Try.func48 (by kernel_rfl) rfl #[.pointer (some ⟨g319, 0, none⟩), .slice Ao36 y347.length co36] (by rfl) rfl rfl (by first | (simp only [List.map_toArray, List.map_cons, List.map_nil, Act.eval, Array.getD_eq_getD_getElem?, Option.getD_some, e29, e30]; done) | (simp only [List.map_toArray, List.map_cons, List.map_nil, Act.eval, Array.getD_eq_getD_getElem?, Option.getD_some, e29, e30]; rfl)) ?_
     with_reducible refine (spec_l1PickInt.calls g319 t316 t345 t346 _ _ y347 t350 t351 t352 w _ ?side1 ?side2 ?side3 ?side4 ?side5 A28.out).mono ?_
     (case side1 => repeat (first | (with_reducible first | exact HI319.out | apply IsS83.alloc | apply IsS83.drewN | apply IsS83.drew | apply IsS83.set_1 | apply IsS83.set_2 | refine IsS83.far ?_ NB319_315.out _ | refine IsS83.far ?_ NB319_326.out _) | exact HI319.out))
     (case side2 => repeat (first | (with_reducible first | exact HB.out | apply below_alloc | apply pw_below_drewN | apply below_drew1 | refine below_set ?_ (IsS83.ge HI319.out) | refine below_set ?_ GE315.out | refine below_set ?_ GE326.out) | exact HB.out))
     (case side3 => repeat (first | exact (Kd.R_reads' HO349.out).2.2 | (with_reducible refine Kd.C_alloc ?_ _) | (with_reducible refine Kd.C_drewN ?_ _) | (with_reducible refine Kd.C_drew ?_)))
     (case side4 => exact (Kd.R_reads' HO349.out).2.1)
     (case side5 => exact far_slice (IsS83.own_ne HI319.out HO349.out (by decide)))
     rintro e w37 ⟨rfl, hi, hb, hk⟩
     refine ⟨_, rfl, ?_⟩
     have n0_ := Aside0.mk (KeepBut.blk hk (g' := gb315) (o := .cells #[.int .i64 0, .int .i64 0] 24 (0, 0)) blkNow NB315_319.out (by simp))
     have n1_ := Aside0.mk (KeepBut.blk hk (g' := gb326) (o := .cells #[.int .i64 x327000_5, .int .i64 t323] 24 (0, 0)) blkNow NB326_319.out (by simp))
     have n2_ := Aside0.mk (Kd.R_mono (Kd.R_keep (IsS83.apart (show IsS83 w _ g319 t316 t345 t346 from by repeat (first | (with_reducible first | exact HI319.out | apply IsS83.alloc | apply IsS83.drewN | apply IsS83.drew | apply IsS83.set_1 | apply IsS83.set_2 | refine IsS83.far ?_ NB319_315.out _ | refine IsS83.far ?_ NB319_326.out _) | exact HI319.out)) (by (with_reducible repeat (first | apply Kd.R_alloc | apply Kd.R_drewN | apply Kd.R_drew)); exact HO338.out) (by decide)) hk (fun _ h => h.2)) (fun _ h => h.1))
     have n3_ := Aside0.mk (Kd.R_mono (Kd.R_keep (IsS83.apart (show IsS83 w _ g319 t316 t345 t346 from by repeat (first | (with_reducible first | exact HI319.out | apply IsS83.alloc | apply IsS83.drewN | apply IsS83.drew | apply IsS83.set_1 | apply IsS83.set_2 | refine IsS83.far ?_ NB319_315.out _ | refine IsS83.far ?_ NB319_326.out _) | exact HI319.out)) (by (with_reducible repeat (first | apply Kd.R_alloc | apply Kd.R_drewN | apply Kd.R_drew)); exact HO349.out) (by decide)) hk (fun _ h => h.2)) (fun _ h => h.1))
     have n4_ := Aside0.mk (hb)
     have n5_ := Aside0.mk (hi)
     clear BK315
     clear BK326
     clear HO338
     clear HO349
     clear HB
     clear HI319
     have BK315 := n0_
     have BK326 := n1_
     have HO338 := n2_
     have HO349 := n3_
     have HB := n4_
     have HI319 := n5_
     clear n0_ n1_ n2_ n3_ n4_ n5_
     (try clear hb)
     (try clear hb2)
     (try clear hk)
     (try clear hi)
     refine hK.out _ _ ⟨v337, .slice Ao36 y347.length co36, m11_, (by rw [ha.out]; exact putSel_upk 5 hb_ rfl rfl rfl), fun _ => blkNow, blkNow, fun h0_ => absurd ((hon 2 (by kernel_rfl)).symm.trans h0_) (by decide), (by repeat (first | (with_reducible first | exact HB.out | apply below_alloc | apply pw_below_drewN | apply below_drew1 | refine below_set ?_ (IsS83.ge HI319.out) | refine below_set ?_ GE315.out | refine below_set ?_ GE326.out) | exact HB.out)), fun _ => (by (with_reducible repeat (first | apply Kd.R_alloc | apply Kd.R_drewN | apply Kd.R_drew)); exact HO338.out), fun _ h1_ => absurd ((hon 4 (by kernel_rfl)).symm.trans h1_) (by decide), fun _ h1_ => absurd ((hon 6 (by kernel_rfl)).symm.trans h1_) (by decide), fun _ h1_ => absurd ((up_self b 9).symm.trans h1_) (by decide), fun _ => (by (with_reducible repeat (first | apply Kd.R_alloc | apply Kd.R_drewN | apply Kd.R_drew)); exact HO349.out), fun _ => (by repeat (first | (with_reducible first | exact HI319.out | apply IsS83.alloc | apply IsS83.drewN | apply IsS83.drew | apply IsS83.set_1 | apply IsS83.set_2 | refine IsS83.far ?_ NB319_315.out _ | refine IsS83.far ?_ NB319_326.out _) | exact HI319.out)), fun h0_ => absurd ((hoff 10 (by kernel_rfl)).symm.trans h0_) (by decide), fun h0_ => absurd ((hoff 11 (by kernel_rfl)).symm.trans h0_) (by decide)⟩
    refine steps_cons ?_ ?_
    ·rintro b a w' ⟨v337, v348, m11_, ha, Q_BK315, Q_BK326, Q_HI319, Q_HB, Q_HO338, Q_HI319_e2, Q_HI319_e4, Q_HI319_e6, Q_HO349, Q_HI319_e9, Q_BK315_e10, Q_X11_⟩ hb_ hon hoff
     refine ⟨_, rfl, fun K hK => ?_⟩
     have e2 : a.tmps[2]? = some (.pointer (some ⟨gb315, 0, none⟩)) := by rw [ha]; exact (putSel_off rfl).trans rfl
     have e22 : a.tmps[22]? = some (.agg #[.int .i64 x327000_5, .int .i64 t323]) := by rw [ha]; exact putSel_on (e := (0, 22, .agg #[.int .i64 x327000_5, .int .i64 t323])) 0 rfl rfl (hon 0 (by kernel_rfl)) rfl
     replace ha := Aside0.mk ha
     have BK315 := Aside0.mk (Q_BK315 hb_)
     have BK326 := Aside0.mk Q_BK326
     have HB := Aside0.mk Q_HB
     have HO338 := Aside0.mk (Q_HO338 (hon 2 (by kernel_rfl)))
     have HO349 := Aside0.mk (Q_HO349 (hon 8 (by kernel_rfl)))
     have HI319 := Aside0.mk (Q_HI319_e9 (hon 9 (by kernel_rfl)))
     have hs38 : w'.cell? ⟨gb315, 0, none⟩ = some (.int .i64 0) := (blk_cell BK315.out 0).trans rfl
     have hfs38 := blk_frozen BK315.out 0
     have hns38_1 := NB326_315.out
     have hms38_1 := NB315_326.out
     have hs39 : w'.cell? ⟨gb315, 1, none⟩ = some (.int .i64 0) := (blk_cell BK315.out 1).trans rfl
     have hfs39 := blk_frozen BK315.out 1
     have hns39_1 := NB326_315.out
     have hms39_1 := NB315_326.out
     refine skip_ (w1 := ?_) (by rfl) rfl ?_ ?_
     rotate_left
     ·go_simp
      rfl
     refine hK.out _ _ ⟨v337, v348, m11_, (by rw [ha.out]; exact putSel_none (v := undef) rfl), fun h0_ => absurd ((up_self b 10).symm.trans h0_) (by decide), (by (with_reducible repeat (first | refine blk_drewN ?_ _ | refine blk_drew ?_ | refine blk_alloc ?_ _)); refine blk_far ?_ NB326_315.out _; (with_reducible repeat (first | refine blk_drewN ?_ _ | refine blk_drew ?_ | refine blk_alloc ?_ _)); refine blk_far ?_ NB326_315.out _; (with_reducible repeat (first | refine blk_drewN ?_ _ | refine blk_drew ?_ | refine blk_alloc ?_ _)); exact BK326.out), fun h0_ => absurd ((hon 2 (by kernel_rfl)).symm.trans h0_) (by decide), (by repeat (first | (with_reducible first | exact HB.out | apply below_alloc | apply pw_below_drewN | apply below_drew1 | refine below_set ?_ (IsS83.ge HI319.out) | refine below_set ?_ GE315.out | refine below_set ?_ GE326.out) | exact HB.out)), fun _ => (by (with_reducible repeat (first | apply Kd.R_alloc | apply Kd.R_drewN | apply Kd.R_drew)); exact Kd.R_mono (Kd.R_far (p := ⟨gb315, 1, none⟩) (Kd.R_far (p := ⟨gb315, 0, none⟩) (Kd.R_types HO338.out BK315.out (by decide)) (fun _ hk => hk.2) (.int .i64 x327000_5)) (fun _ hk => hk.2) (.int .i64 t323)) (fun _ hk => trivial)), fun _ h1_ => absurd ((hon 4 (by kernel_rfl)).symm.trans h1_) (by decide), fun _ h1_ => absurd ((hon 6 (by kernel_rfl)).symm.trans h1_) (by decide), fun _ h1_ => absurd ((hon 9 (by kernel_rfl)).symm.trans h1_) (by decide), fun _ => (by (with_reducible repeat (first | apply Kd.R_alloc | apply Kd.R_drewN | apply Kd.R_drew)); exact Kd.R_mono (Kd.R_far (p := ⟨gb315, 1, none⟩) (Kd.R_far (p := ⟨gb315, 0, none⟩) (Kd.R_types HO349.out BK315.out (by decide)) (fun _ hk => hk.2) (.int .i64 x327000_5)) (fun _ hk => hk.2) (.int .i64 t323)) (fun _ hk => trivial)), fun _ => (by repeat (first | (with_reducible first | exact HI319.out | apply IsS83.alloc | apply IsS83.drewN | apply IsS83.drew | apply IsS83.set_1 | apply IsS83.set_2 | refine IsS83.far ?_ NB319_315.out _ | refine IsS83.far ?_ NB319_326.out _) | exact HI319.out)), fun _ => (by (with_reducible repeat (first | refine blk_drewN ?_ _ | refine blk_drew ?_ | refine blk_alloc ?_ _)); refine blk_put (cs := #[.int .i64 x327000_5, .int .i64 0]) ?_ 1 _ rfl; (with_reducible repeat (first | refine blk_drewN ?_ _ | refine blk_drew ?_ | refine blk_alloc ?_ _)); refine blk_put (cs := #[.int .i64 0, .int .i64 0]) ?_ 0 _ rfl; (with_reducible repeat (first | refine blk_drewN ?_ _ | refine blk_drew ?_ | refine blk_alloc ?_ _)); exact BK315.out), fun h0_ => absurd ((hoff 11 (by kernel_rfl)).symm.trans h0_) (by decide)⟩
    refine steps_cons ?_ ?_
    ·rintro b a w' ⟨v337, v348, m11_, ha, Q_BK315, Q_BK326, Q_HI319, Q_HB, Q_HO338, Q_HI319_e2, Q_HI319_e4, Q_HI319_e6, Q_HO349, Q_HI319_e9, Q_BK315_e10, Q_X11_⟩ hb_ hon hoff
     refine ⟨_, rfl, fun K hK => ?_⟩
     have e24 : a.tmps[24]? = some (v337) := by rw [ha]; exact putSel_on (e := (2, 24, v337)) 1 rfl rfl (hon 2 (by kernel_rfl)) rfl
     replace ha := Aside0.mk ha
     have BK326 := Aside0.mk Q_BK326
     have HB := Aside0.mk Q_HB
     have HO338 := Aside0.mk (Q_HO338 (hon 2 (by kernel_rfl)))
     have HO349 := Aside0.mk (Q_HO349 (hon 8 (by kernel_rfl)))
     have HI319 := Aside0.mk (Q_HI319_e9 (hon 9 (by kernel_rfl)))
     have BK315 := Aside0.mk (Q_BK315_e10 (hon 10 (by kernel_rfl)))
     refine value_ (w1 := w') (v := v337) (by rfl) rfl ?_ ?_
     ·go_simp
      (try simp only [i64_w])
      try rfl
     refine hK.out _ _ ⟨v337, v348, (v337), (by rw [ha.out]; exact putSel_upk 6 hb_ rfl rfl rfl), fun h0_ => absurd ((hon 10 (by kernel_rfl)).symm.trans h0_) (by decide), Q_BK326, fun h0_ => absurd ((hon 2 (by kernel_rfl)).symm.trans h0_) (by decide), Q_HB, Q_HO338, fun _ h1_ => absurd ((hon 4 (by kernel_rfl)).symm.trans h1_) (by decide), fun _ h1_ => absurd ((hon 6 (by kernel_rfl)).symm.trans h1_) (by decide), fun _ h1_ => absurd ((hon 9 (by kernel_rfl)).symm.trans h1_) (by decide), Q_HO349, Q_HI319_e9, Q_BK315_e10, fun _ => rfl⟩
    refine steps_cons ?_ ?_
    ·rintro b a w' ⟨v337, v348, m11_, ha, Q_BK315, Q_BK326, Q_HI319, Q_HB, Q_HO338, Q_HI319_e2, Q_HI319_e4, Q_HI319_e6, Q_HO349, Q_HI319_e9, Q_BK315_e10, Q_X11_⟩ hb_ hon hoff
     refine ⟨_, rfl, fun K hK => ?_⟩
     have e26 : a.tmps[26]? = some (.int .i64 t341) := by rw [ha]; exact putSel_on (e := (4, 26, .int .i64 t341)) 2 rfl rfl (hon 4 (by kernel_rfl)) rfl
     replace ha := Aside0.mk ha
     have BK326 := Aside0.mk Q_BK326
     have HB := Aside0.mk Q_HB
     have HO338 := Aside0.mk (Q_HO338 (hon 2 (by kernel_rfl)))
     have HO349 := Aside0.mk (Q_HO349 (hon 8 (by kernel_rfl)))
     have HI319 := Aside0.mk (Q_HI319_e9 (hon 9 (by kernel_rfl)))
     have BK315 := Aside0.mk (Q_BK315_e10 (hon 10 (by kernel_rfl)))
     refine value_ (w1 := w') (v := .int .i64 t341) (by rfl) rfl ?_ ?_
     ·go_simp
      (try simp only [i64_w])
      try rfl
     refine hK.out _ _ ⟨v337, v348, m11_, (by rw [ha.out]; exact putSel_upk 7 hb_ rfl rfl rfl), fun h0_ => absurd ((hon 10 (by kernel_rfl)).symm.trans h0_) (by decide), Q_BK326, fun h0_ => absurd ((hon 2 (by kernel_rfl)).symm.trans h0_) (by decide), Q_HB, Q_HO338, fun _ h1_ => absurd ((hon 4 (by kernel_rfl)).symm.trans h1_) (by decide), fun _ h1_ => absurd ((hon 6 (by kernel_rfl)).symm.trans h1_) (by decide), fun _ h1_ => absurd ((hon 9 (by kernel_rfl)).symm.trans h1_) (by decide), Q_HO349, Q_HI319_e9, Q_BK315_e10, Q_X11_⟩
    refine steps_cons ?_ ?_
    ·rintro b a w' ⟨v337, v348, m11_, ha, Q_BK315, Q_BK326, Q_HI319, Q_HB, Q_HO338, Q_HI319_e2, Q_HI319_e4, Q_HI319_e6, Q_HO349, Q_HI319_e9, Q_BK315_e10, Q_X11_⟩ hb_ hon hoff
     refine ⟨_, rfl, fun K hK => ?_⟩
     have e28 : a.tmps[28]? = some (.int .i64 t344) := by rw [ha]; exact putSel_on (e := (6, 28, .int .i64 t344)) 3 rfl rfl (hon 6 (by kernel_rfl)) rfl
     replace ha := Aside0.mk ha
     have BK326 := Aside0.mk Q_BK326
     have HB := Aside0.mk Q_HB
     have HO338 := Aside0.mk (Q_HO338 (hon 2 (by kernel_rfl)))
     have HO349 := Aside0.mk (Q_HO349 (hon 8 (by kernel_rfl)))
     have HI319 := Aside0.mk (Q_HI319_e9 (hon 9 (by kernel_rfl)))
     have BK315 := Aside0.mk (Q_BK315_e10 (hon 10 (by kernel_rfl)))
     refine value_ (w1 := w') (v := .int .i64 t344) (by rfl) rfl ?_ ?_
     ·go_simp
      (try simp only [i64_w])
      try rfl
     refine hK.out _ _ ⟨v337, v348, m11_, (by rw [ha.out]; exact putSel_upk 8 hb_ rfl rfl rfl), fun h0_ => absurd ((hon 10 (by kernel_rfl)).symm.trans h0_) (by decide), Q_BK326, fun h0_ => absurd ((hon 2 (by kernel_rfl)).symm.trans h0_) (by decide), Q_HB, Q_HO338, fun _ h1_ => absurd ((hon 4 (by kernel_rfl)).symm.trans h1_) (by decide), fun _ h1_ => absurd ((hon 6 (by kernel_rfl)).symm.trans h1_) (by decide), fun _ h1_ => absurd ((hon 9 (by kernel_rfl)).symm.trans h1_) (by decide), Q_HO349, Q_HI319_e9, Q_BK315_e10, Q_X11_⟩
    refine steps_cons ?_ ?_
    ·rintro b a w' ⟨v337, v348, m11_, ha, Q_BK315, Q_BK326, Q_HI319, Q_HB, Q_HO338, Q_HI319_e2, Q_HI319_e4, Q_HI319_e6, Q_HO349, Q_HI319_e9, Q_BK315_e10, Q_X11_⟩ hb_ hon hoff
     refine ⟨_, rfl, fun K hK => ?_⟩
     have e31 : a.tmps[31]? = some (.int .i64 t350) := by rw [ha]; exact putSel_on (e := (9, 31, .int .i64 t350)) 5 rfl rfl (hon 9 (by kernel_rfl)) rfl
     replace ha := Aside0.mk ha
     have BK326 := Aside0.mk Q_BK326
     have HB := Aside0.mk Q_HB
     have HO338 := Aside0.mk (Q_HO338 (hon 2 (by kernel_rfl)))
     have HO349 := Aside0.mk (Q_HO349 (hon 8 (by kernel_rfl)))
     have HI319 := Aside0.mk (Q_HI319_e9 (hon 9 (by kernel_rfl)))
     have BK315 := Aside0.mk (Q_BK315_e10 (hon 10 (by kernel_rfl)))
     refine value_ (w1 := w') (v := .int .i64 t350) (by rfl) rfl ?_ ?_
     ·go_simp
      (try simp only [i64_w])
      try rfl
     refine hK.out _ _ ⟨v337, v348, m11_, (by rw [ha.out]; exact putSel_upk 9 hb_ rfl rfl rfl), fun h0_ => absurd ((hon 10 (by kernel_rfl)).symm.trans h0_) (by decide), Q_BK326, fun h0_ => absurd ((hon 2 (by kernel_rfl)).symm.trans h0_) (by decide), Q_HB, Q_HO338, fun _ h1_ => absurd ((hon 4 (by kernel_rfl)).symm.trans h1_) (by decide), fun _ h1_ => absurd ((hon 6 (by kernel_rfl)).symm.trans h1_) (by decide), fun _ h1_ => absurd ((hon 9 (by kernel_rfl)).symm.trans h1_) (by decide), Q_HO349, Q_HI319_e9, Q_BK315_e10, Q_X11_⟩
    exact steps_nil
   rintro b a w39 hall ⟨v337, v348, m11_, ha, Q_BK315, Q_BK326, Q_HI319, Q_HB, Q_HO338, Q_HI319_e2, Q_HI319_e4, Q_HI319_e6, Q_HO349, Q_HI319_e9, Q_BK315_e10, Q_X11_⟩
   clear BK315 BK326 HB HI319
   have hb0_ := hall 0 (by kernel_rfl)
   have hb2_ := hall 2 (by kernel_rfl)
   have hb4_ := hall 4 (by kernel_rfl)
   have hb6_ := hall 6 (by kernel_rfl)
   have hb8_ := hall 8 (by kernel_rfl)
   have hb9_ := hall 9 (by kernel_rfl)
   have hb10_ := hall 10 (by kernel_rfl)
   have hb11_ := hall 11 (by kernel_rfl)
   have hb12_ := hall 12 (by kernel_rfl)
   have hb13_ := hall 13 (by kernel_rfl)
   have hb14_ := hall 14 (by kernel_rfl)
   subst ha
   obtain rfl := Q_X11_ hb11_
   simp only [putSel, hb0_, hb2_, hb4_, hb6_, hb8_, hb9_, hb10_, hb11_, hb12_, hb13_, hb14_, if_true, Act.put, List.setIfInBounds_toArray, List.set_cons_zero, List.set_cons_succ]
   clear Q_BK315
   have BK326 := Aside0.mk Q_BK326
   clear Q_BK326
   clear Q_HI319
   have HB := Aside0.mk Q_HB
   clear Q_HB
   have HO338 := Aside0.mk (Q_HO338 hb2_)
   clear Q_HO338
   clear Q_HI319_e2
   clear Q_HI319_e4
   clear Q_HI319_e6
   have HO349 := Aside0.mk (Q_HO349 hb8_)
   clear Q_HO349
   have HI319 := Aside0.mk (Q_HI319_e9 hb9_)
   clear Q_HI319_e9
   have BK315 := Aside0.mk (Q_BK315_e10 hb10_)
   clear Q_BK315_e10
   clear hall hb0_ hb2_ hb4_ hb6_ hb8_ hb9_ hb10_ hb11_ hb12_ hb13_ hb14_
   try go_wp2
   refine bodyPost_ret (results_list (rs := [.cell 2 24, .tmp 3, .tmp 4, .tmp 5, .tmp 6]) rfl (by simp) (.cell gb315 24 #[.int .i64 x327000_5, .int .i64 t323] (0, 0) _ rfl blkNow Try.underlying24 rfl (by kernel_rfl) (.tmp (.tmp (.tmp (.tmp .nil)))))) rfl ?_
   exact ⟨_, by first | rfl | (simp [errW_none, errW_some] <;> rfl) | (simp [*, errW_none, errW_some] <;> rfl), by (with_reducible repeat (first | apply Kd.R_alloc | apply Kd.R_drewN | apply Kd.R_drew)); exact HO338.out, by repeat (first | (with_reducible first | exact HB.out | apply below_alloc | apply pw_below_drewN | apply below_drew1 | refine below_set ?_ (IsS83.ge HI319.out) | refine below_set ?_ GE315.out | refine below_set ?_ GE326.out) | exact HB.out)⟩

end Go.Proofs.Ytodehmbgcncnhaa.PFnReserved
