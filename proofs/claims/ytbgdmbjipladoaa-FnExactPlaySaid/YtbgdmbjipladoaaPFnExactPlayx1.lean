-- laid by a program of this session (wip/lay/lay.py); Lean checks it
import Derived.Test.YtbgdmbjipladoaaVFnExactPlayShort
import Derived.Test.YtbgdmbjipladoaaPFnExactPlayx0
namespace Go.Proofs.Ytbgdmbjipladoaa.PFnExactPlay
-- squashed
open Go.RowKit Go.Proofs.YtbgdmbjipladoaaW.PrintWords Go.Proofs.YtbgdmbjipladoaaW.PrintLast Go.Proofs.YtbgdmbjipladoaaW.PrintMore Go.Proofs.Ytbgdmbjipladoaa.Short
attribute [local go_sem] max2_int min2_int max_two min_two max_three min_three max_four min_four   -- for this text's walks alone
set_option linter.unusedVariables false
set_option linter.unusedSimpArgs false

theorem cz1_ {w : World} {g : Nat} {t : TypeId} {cs : Array Value} {v : Value} (h : w.heap[g]? = some (.cells cs t (0, 0))) (i : Nat) (e : cs[i]? = some v) : w.cell? ⟨g, i, none⟩ = some v := (blk_cell h i).trans e
theorem nn1_ {a b : Nat} (h : a ≠ b) : a ≠ b ∧ b ≠ a := ⟨h, h.symm⟩
/-! ### laws_szPacketS: function 12 -/
def laws_szPacketS.f (l0 : List (S41)) (a1 : Int) : Option (Int) := if (wrap64 (a1 - (l0.length : Int))) < 0 then (some (-1)) else (some (wrap64 (a1 - (l0.length : Int))))
set_option maxHeartbeats 8000000 in
set_option maxRecDepth 100000 in
theorem laws_szPacketS.calls (A0 : Option Addr) (c0 : Nat) (l0 : List (S41)) (a1 : Int) (r : Int) (w : World) (hr0 : Kd.C k41 w A0 l0.length l0) (hc0 : l0.length ≤ c0) (h : laws_szPacketS.f l0 a1 = some r) :
  Calls Try.prog 12 #[.slice A0 l0.length c0, .int .i64 a1] w fun e w' => e = .returned (.int .i64 r) ∧ Drawn0 w w' := by
 have HR0 := am_ hr0; have HC0 := am_ hc0; clear hr0 hc0; have H : (if (wrap64 (a1 - (l0.length : Int))) < 0 then (some (-1)) else (some (wrap64 (a1 - (l0.length : Int))))) = some r := h; clear h
 by_cases c3 : (wrap64 (a1 - (l0.length : Int))) < 0
 case pos =>
  rw [if_pos c3] at H; have c3b0 : decide ((wrap64 (a1 - (l0.length : Int))) < 0) = true := decide_eq_true c3; clear c3; obtain rfl := Option.some.inj H
  go_enter Try.func12, Try.ntmps12
  go_wp2
  go_ret
  exact ⟨by first | rfl | (simp; done) | (simp [*]; done), by repeat (first | exact Drawn0.refl _ | apply Drawn0.step)⟩
 rw [if_neg c3] at H; have c3b0 : decide ((wrap64 (a1 - (l0.length : Int))) < 0) = false := decide_eq_false c3; clear c3; obtain rfl := Option.some.inj H
 go_enter Try.func12, Try.ntmps12
 go_wp2
 go_ret
 exact ⟨by first | rfl | (simp; done) | (simp [*]; done), by repeat (first | exact Drawn0.refl _ | apply Drawn0.step)⟩

/-! ### laws_szPlayer: function 17 -/
def laws_szPlayer.f (a0_0 : Int) (a0_1 : Int) (a0_2 : Int) (a0_3 : Int) (a0_4 : Int) (l0_5 : List (S41)) (a1 : Int) : Option (Int) := (laws_szPacketS.f l0_5 a1).bind fun t102 => (if t102 < 0 then (some (-1)) else (some t102))
set_option maxHeartbeats 8000000 in
set_option maxRecDepth 100000 in
theorem laws_szPlayer.calls (a0_0 : Int) (a0_1 : Int) (a0_2 : Int) (a0_3 : Int) (a0_4 : Int) (A0_5 : Option Addr) (c0_5 : Nat) (l0_5 : List (S41)) (a1 : Int) (r : Int) (w : World) (hr0_5 : Kd.C k41 w A0_5 l0_5.length l0_5) (hc0_5 : l0_5.length ≤ c0_5) (h : laws_szPlayer.f a0_0 a0_1 a0_2 a0_3 a0_4 l0_5 a1 = some r) :
  Calls Try.prog 17 #[.agg #[.int .i64 a0_0, .int .i64 a0_1, .int .i64 a0_2, .int .i64 a0_3, .int .i64 a0_4, .slice A0_5 l0_5.length c0_5], .int .i64 a1] w fun e w' => e = .returned (.int .i64 r) ∧ Below w.heap.size w w' := by
 have hu31 := Try.underlying31; have HR0_5 := am_ hr0_5; have HC0_5 := am_ hc0_5; clear hr0_5 hc0_5; have HB := am_ (Below.refl w.heap.size w)
 have H : ((laws_szPacketS.f l0_5 a1).bind fun t102 => (if t102 < 0 then (some (-1)) else (some t102))) = some r := h
 clear h; replace H := Option.bind_eq_some_iff.mp H; obtain ⟨t102, A30, H⟩ := H
 replace H : (if t102 < 0 then (some (-1)) else (some t102)) = some r := H
 have A3 := am_ A30; clear A30
 by_cases c4 : t102 < 0
 case pos =>
  rw [if_pos c4] at H; have c4b0 : decide (t102 < 0) = true := decide_eq_true c4; clear c4; obtain rfl := Option.some.inj H
  go_enter Try.func17, Try.ntmps17
  go_wp2_with (first | ((with_reducible refine gate_dst (N := 2) rfl ?_); refine box_event ?hg (N := 2) ?hd (cs := #[.int .i64 a0_0, .int .i64 a0_1, .int .i64 a0_2, .int .i64 a0_3, .int .i64 a0_4, .slice A0_5 l0_5.length c0_5]) (t := 31) ?hr ?_; (case hd => rfl); (case hg => rfl); (case hr => first | (go_simp; done) | (go_simp; rfl)); intro gb101 hg w5 hbox hb; have n0_ := am_ (below_step belowNow hb); have n1_ := am_ (hbox); have n2_ := am_ ((by rw [hg]; exact (below_size belowNow) : w.heap.size ≤ gb101)); have n3_ := n2_; clear HB; have HB := n0_; have BK101 := n1_; have GW101 := n2_; have GE101 := n3_; clear n0_ n1_ n2_ n3_; clear hb hbox hg; have hcz6_0 := cz1_ BK101.out 0 rfl; have hcz6_1 := cz1_ BK101.out 1 rfl; have hcz6_2 := cz1_ BK101.out 2 rfl; have hcz6_3 := cz1_ BK101.out 3 rfl; have hcz6_4 := cz1_ BK101.out 4 rfl; have hcz6_5 := cz1_ BK101.out 5 rfl; have hfz6_0 := blk_frozen BK101.out 0; have hfz6_1 := blk_frozen BK101.out 1; have hfz6_2 := blk_frozen BK101.out 2; have hfz6_3 := blk_frozen BK101.out 3; have hfz6_4 := blk_frozen BK101.out 4; have hfz6_5 := blk_frozen BK101.out 5) | ((with_reducible refine gate_callee (f := 12) rfl ?_); refine goesL_ (some 8) rfl rfl Try.func12 (by kernel_rfl) rfl #[.slice A0_5 l0_5.length c0_5, .int .i64 a1] rfl (by (try simp only [List.map_toArray, List.map_cons, List.map_nil]); first | done | rfl | (simp only [List.length_drop, List.length_take]; rfl)) ?_; (with_reducible refine (laws_szPacketS.calls _ _ l0_5 a1 t102 _ ?side1 ?side2 A3.out).mono ?_); (case side1 => repeat (first | exact (Kd.C_below HR0_5.out HB.out) | (with_reducible refine Kd.C_alloc ?_ _) | (with_reducible refine Kd.C_drewN ?_ _) | (with_reducible refine Kd.C_drew ?_))); (case side2 => exact HC0_5.out); rintro e w' ⟨rfl, ⟨nd, rfl⟩⟩; refine ⟨_, rfl, ?_⟩))
  go_ret
  exact ⟨by first | rfl | (simp [errW_none, errW_some] <;> rfl) | (simp [*, errW_none, errW_some] <;> rfl), belowNow⟩
 rw [if_neg c4] at H; have c4b0 : decide (t102 < 0) = false := decide_eq_false c4; clear c4; obtain rfl := Option.some.inj H
 go_enter Try.func17, Try.ntmps17
 go_wp2_with (first | ((with_reducible refine gate_dst (N := 2) rfl ?_); refine box_event ?hg (N := 2) ?hd (cs := #[.int .i64 a0_0, .int .i64 a0_1, .int .i64 a0_2, .int .i64 a0_3, .int .i64 a0_4, .slice A0_5 l0_5.length c0_5]) (t := 31) ?hr ?_; (case hd => rfl); (case hg => rfl); (case hr => first | (go_simp; done) | (go_simp; rfl)); intro gb101 hg w7 hbox hb; have n0_ := am_ (below_step belowNow hb); have n1_ := am_ (hbox); have n2_ := am_ ((by rw [hg]; exact (below_size belowNow) : w.heap.size ≤ gb101)); have n3_ := n2_; clear HB; have HB := n0_; have BK101 := n1_; have GW101 := n2_; have GE101 := n3_; clear n0_ n1_ n2_ n3_; clear hb hbox hg; have hcz8_0 := cz1_ BK101.out 0 rfl; have hcz8_1 := cz1_ BK101.out 1 rfl; have hcz8_2 := cz1_ BK101.out 2 rfl; have hcz8_3 := cz1_ BK101.out 3 rfl; have hcz8_4 := cz1_ BK101.out 4 rfl; have hcz8_5 := cz1_ BK101.out 5 rfl; have hfz8_0 := blk_frozen BK101.out 0; have hfz8_1 := blk_frozen BK101.out 1; have hfz8_2 := blk_frozen BK101.out 2; have hfz8_3 := blk_frozen BK101.out 3; have hfz8_4 := blk_frozen BK101.out 4; have hfz8_5 := blk_frozen BK101.out 5) | ((with_reducible refine gate_callee (f := 12) rfl ?_); refine goesL_ (some 8) rfl rfl Try.func12 (by kernel_rfl) rfl #[.slice A0_5 l0_5.length c0_5, .int .i64 a1] rfl (by (try simp only [List.map_toArray, List.map_cons, List.map_nil]); first | done | rfl | (simp only [List.length_drop, List.length_take]; rfl)) ?_; (with_reducible refine (laws_szPacketS.calls _ _ l0_5 a1 t102 _ ?side1 ?side2 A3.out).mono ?_); (case side1 => repeat (first | exact (Kd.C_below HR0_5.out HB.out) | (with_reducible refine Kd.C_alloc ?_ _) | (with_reducible refine Kd.C_drewN ?_ _) | (with_reducible refine Kd.C_drew ?_))); (case side2 => exact HC0_5.out); rintro e w' ⟨rfl, ⟨nd, rfl⟩⟩; refine ⟨_, rfl, ?_⟩))
 go_ret
 exact ⟨by first | rfl | (simp [errW_none, errW_some] <;> rfl) | (simp [*, errW_none, errW_some] <;> rfl), belowNow⟩

/-! ### laws_toByteA16: function 53 -/
def laws_toByteA16.f (a0_0 : Int) (a0_1 : Int) (a0_2 : Int) (a0_3 : Int) (a0_4 : Int) (a0_5 : Int) (a0_6 : Int) (a0_7 : Int) (a0_8 : Int) (a0_9 : Int) (a0_10 : Int) (a0_11 : Int) (a0_12 : Int) (a0_13 : Int) (a0_14 : Int) (a0_15 : Int) : Option (Int × Int × Int × Int × Int × Int × Int × Int × Int × Int × Int × Int × Int × Int × Int × Int) := some (a0_0, a0_1, a0_2, a0_3, a0_4, a0_5, a0_6, a0_7, a0_8, a0_9, a0_10, a0_11, a0_12, a0_13, a0_14, a0_15)
theorem laws_toByteA16.list (a0_0 a0_1 a0_2 a0_3 a0_4 a0_5 a0_6 a0_7 a0_8 a0_9 a0_10 a0_11 a0_12 a0_13 a0_14 a0_15 : Int) : (#[.int .u8 a0_0, .int .u8 a0_1, .int .u8 a0_2, .int .u8 a0_3, .int .u8 a0_4, .int .u8 a0_5, .int .u8 a0_6, .int .u8 a0_7, .int .u8 a0_8, .int .u8 a0_9, .int .u8 a0_10, .int .u8 a0_11, .int .u8 a0_12, .int .u8 a0_13, .int .u8 a0_14, .int .u8 a0_15] : Array Value) = Arr.u8s [a0_0, a0_1, a0_2, a0_3, a0_4, a0_5, a0_6, a0_7, a0_8, a0_9, a0_10, a0_11, a0_12, a0_13, a0_14, a0_15] := rfl
set_option maxHeartbeats 4000000 in
set_option maxRecDepth 100000 in
theorem laws_toByteA16.calls (a0_0 : Int) (a0_1 : Int) (a0_2 : Int) (a0_3 : Int) (a0_4 : Int) (a0_5 : Int) (a0_6 : Int) (a0_7 : Int) (a0_8 : Int) (a0_9 : Int) (a0_10 : Int) (a0_11 : Int) (a0_12 : Int) (a0_13 : Int) (a0_14 : Int) (a0_15 : Int) (r1 : Int) (r2 : Int) (r3 : Int) (r4 : Int) (r5 : Int) (r6 : Int) (r7 : Int) (r8 : Int) (r9 : Int) (r10 : Int) (r11 : Int) (r12 : Int) (r13 : Int) (r14 : Int) (r15 : Int) (r16 : Int) (w : World) (h : laws_toByteA16.f a0_0 a0_1 a0_2 a0_3 a0_4 a0_5 a0_6 a0_7 a0_8 a0_9 a0_10 a0_11 a0_12 a0_13 a0_14 a0_15 = some (r1, r2, r3, r4, r5, r6, r7, r8, r9, r10, r11, r12, r13, r14, r15, r16)) :
  Calls Try.prog 53 #[.agg #[.int .u8 a0_0, .int .u8 a0_1, .int .u8 a0_2, .int .u8 a0_3, .int .u8 a0_4, .int .u8 a0_5, .int .u8 a0_6, .int .u8 a0_7, .int .u8 a0_8, .int .u8 a0_9, .int .u8 a0_10, .int .u8 a0_11, .int .u8 a0_12, .int .u8 a0_13, .int .u8 a0_14, .int .u8 a0_15]] w fun e w' => e = .returned (.agg #[.int .u8 r1, .int .u8 r2, .int .u8 r3, .int .u8 r4, .int .u8 r5, .int .u8 r6, .int .u8 r7, .int .u8 r8, .int .u8 r9, .int .u8 r10, .int .u8 r11, .int .u8 r12, .int .u8 r13, .int .u8 r14, .int .u8 r15, .int .u8 r16]) ∧ Below w.heap.size w w' := by
 have hu := Try.underlying39; have HB := am_ (Below.refl w.heap.size w)
 unfold laws_toByteA16.f at h
 simp only [Option.some.injEq, Prod.mk.injEq] at h; obtain ⟨rfl, rfl, rfl, rfl, rfl, rfl, rfl, rfl, rfl, rfl, rfl, rfl, rfl, rfl, rfl, rfl⟩ := h
 rw [laws_toByteA16.list a0_0 a0_1 a0_2 a0_3 a0_4 a0_5 a0_6 a0_7 a0_8 a0_9 a0_10 a0_11 a0_12 a0_13 a0_14 a0_15]
 generalize hl : [a0_0, a0_1, a0_2, a0_3, a0_4, a0_5, a0_6, a0_7, a0_8, a0_9, a0_10, a0_11, a0_12, a0_13, a0_14, a0_15] = l
 have hlen : l.length = 16 := by rw [← hl]; rfl
 clear hl; have HL := am_ hlen; clear hlen
 go_enter Try.func53, Try.ntmps53
 go_wp2_with (first | ((with_reducible refine gate_dst (N := 1) rfl ?_); refine box_event ?hg (N := 1) ?hd (cs := Arr.u8s l) (t := 39) ?hr ?_; (case hd => rfl); (case hg => rfl); (case hr => first | (go_simp; done) | (go_simp; rfl)); intro g1 hg_ w1 hbox_ hb_; have hg_g1 := am_ hg_; have hbox_g1 := am_ hbox_; have hb_g1 := am_ hb_; clear hg_ hbox_ hb_) | ((with_reducible refine gate_dst (N := 2) rfl ?_); refine box_event ?hg (N := 2) ?hd (cs := #[.int .u8 0, .int .u8 0, .int .u8 0, .int .u8 0, .int .u8 0, .int .u8 0, .int .u8 0, .int .u8 0, .int .u8 0, .int .u8 0, .int .u8 0, .int .u8 0, .int .u8 0, .int .u8 0, .int .u8 0, .int .u8 0]) (t := 39) ?hr ?_; (case hd => rfl); (case hg => rfl); (case hr => first | (go_simp; done) | (go_simp; rfl)); intro g2 hg_ w2 hbox_ hb_; have hg_g2 := am_ hg_; have hbox_g2 := am_ hbox_; have hb_g2 := am_ hb_; clear hg_ hbox_ hb_) | ((with_reducible refine gate_dst (N := 3) rfl ?_); refine box_event ?hg (N := 3) ?hd (cs := #[.int .u8 0, .int .u8 0, .int .u8 0, .int .u8 0, .int .u8 0, .int .u8 0, .int .u8 0, .int .u8 0, .int .u8 0, .int .u8 0, .int .u8 0, .int .u8 0, .int .u8 0, .int .u8 0, .int .u8 0, .int .u8 0]) (t := 39) ?hr ?_; (case hd => rfl); (case hg => rfl); (case hr => first | (go_simp; done) | (go_simp; rfl)); intro g3 hg_ w3 hbox_ hb_; have hg_g3 := am_ hg_; have hbox_g3 := am_ hbox_; have hb_g3 := am_ hb_; clear hg_ hbox_ hb_))
 have S1 := am_ (blk_below (blk_below hbox_g1.out hb_g2.out) hb_g3.out); have S2 := am_ (blk_below hbox_g2.out hb_g3.out); have S3 := am_ (show w3.heap[g3]? = some (.cells (Arr.u8s (l.take 0 ++ List.replicate (16 - 0) 0)) 39 (0, 0)) from hbox_g3.out)
 have N12 := am_ (show g1 ≠ g2 by rw [hg_g2.out]; exact Nat.ne_of_lt (blk_lt hbox_g1.out))
 have N13 := am_ (show g1 ≠ g3 by rw [hg_g3.out]; exact Nat.ne_of_lt (blk_lt (blk_below hbox_g1.out hb_g2.out)))
 have N23 := am_ (show g2 ≠ g3 by rw [hg_g3.out]; exact Nat.ne_of_lt (blk_lt hbox_g2.out))
 have HB3 := am_ (below_step (below_step hb_g1.out hb_g2.out) hb_g3.out)
 have G2 := am_ (show w.heap.size ≤ g2 by rw [hg_g2.out]; exact below_size hb_g1.out)
 have G3 := am_ (show w.heap.size ≤ g3 by rw [hg_g3.out]; exact below_size (below_step hb_g1.out hb_g2.out))
 clear hbox_g1 hbox_g2 hbox_g3 hb_g1 hb_g2 hb_g3 hg_g1 hg_g2 hg_g3 HB
 go_loopg [4] 17 (fun g v4 w' => ∃ (x : Int) (i : Nat), v4 = .int .i64 x ∧ Aside0 (x = (i : Int) ∧ i ≤ 16 ∧ g = 17 - i) ∧ Aside0 (w'.heap[g1]? = some (.cells (Arr.u8s l) 39 (0, 0))) ∧ Aside0 (w'.heap[g2]? = some (.cells #[.int .u8 0, .int .u8 0, .int .u8 0, .int .u8 0, .int .u8 0, .int .u8 0, .int .u8 0, .int .u8 0, .int .u8 0, .int .u8 0, .int .u8 0, .int .u8 0, .int .u8 0, .int .u8 0, .int .u8 0, .int .u8 0] 39 (0, 0))) ∧ Aside0 (w'.heap[g3]? = some (.cells (Arr.u8s (l.take i ++ List.replicate (16 - i) 0)) 39 (0, 0))) ∧ Aside0 (Below w.heap.size w w'))
 case atStart => exact ⟨0, 0, rfl, ⟨⟨rfl, Nat.zero_le _, rfl⟩⟩, S1, S2, S3, HB3⟩
 case round =>
  clear S1 S2 S3 HB3; obtain ⟨x, i, rfl, HI, S1, S2, S3, HB⟩ := hrel
  by_cases c : i < 16
  ·have cx : x < 16 := by have := HI.out.1; omega
   have cx0 : 0 ≤ x := by have := HI.out.1; omega
   have hlen3 : (l.take i ++ List.replicate (16 - i) (0 : Int)).length = 16 := by have := HL.out; simp; omega
   have hc1 := Arr.cell_of S1.out x cx0 (by have := HL.out; omega)
   have hc3 := Arr.cell_of S3.out x cx0 (by omega)
   have hf3 := blk_frozen S3.out x.toNat
   have hset : (l.take i ++ List.replicate (16 - i) (0 : Int)).set x.toNat (rd l x) = l.take (i + 1) ++ List.replicate (16 - (i + 1)) (0 : Int) := by
    have e : x.toNat = i := by have := HI.out.1; omega
    have hl2 := HL.out
    rw [e]
    apply List.ext_getElem?
    intro j
    by_cases hj : j = i
    ·subst hj
     rw [List.getElem?_set_self (by simp; omega), List.getElem?_append_left (by simp; omega), List.getElem?_take_of_lt (by omega), List.getElem?_eq_getElem (by omega)]
     simp [rd, e, List.getD_eq_getElem?_getD, List.getElem?_eq_getElem (show j < l.length by omega)]
    ·rw [List.getElem?_set_ne (by omega)]
     by_cases h1 : j < i
     ·rw [List.getElem?_append_left (by simp; omega), List.getElem?_append_left (by simp; omega), List.getElem?_take_of_lt h1, List.getElem?_take_of_lt (by omega)]
     ·rw [List.getElem?_append_right (by simp; omega), List.getElem?_append_right (by simp; omega), List.getElem?_replicate, List.getElem?_replicate]
      simp only [List.length_take]
      split <;> split <;> first | rfl | omega
   have HS := am_ hset; have cb : decide (x < 16) = true := decide_eq_true cx; replace cx := eq_true cx; replace cx0 := eq_true cx0; clear c hset hlen3; have hn13 := N13.out; have hn31 := N13.out.symm
   go_wp2
   go_roundg (16 - i)
   case measure => have := HI.out; omega
   case rel =>
    have hx := HI.out
    have cx' := of_eq_true cx
    exact ⟨wrap64 (x + 1), i + 1, rfl, ⟨⟨by rw [hx.1]; unfold wrap64; omega, by omega, by omega⟩⟩, ⟨Arr.blk_other S1.out hn31⟩, ⟨Arr.blk_other S2.out N23.out.symm⟩, ⟨by have := Arr.put_of S3.out x.toNat (rd l x); rw [HS.out] at this; exact this⟩, ⟨below_set HB.out G3.out⟩⟩
  ·have hi : i = 16 := by have := HI.out.2.1; omega
   subst hi; have hx := HI.out.1
   have S3' := am_ (show wr.heap[g3]? = some (.cells (Arr.u8s l) 39 (0, 0)) by have := S3.out; rwa [List.take_of_length_le (by have := HL.out; omega), Nat.sub_self, List.replicate_zero, List.append_nil] at this)
   clear S3
   have cb : decide (x < 16) = false := decide_eq_false (by omega)
   clear c; have hsz := HL.out
   go_wp2_with (first | ((with_reducible refine gate_dst (N := 14) rfl ?_); refine Arr.load_all rfl rfl rfl rfl S3'.out hu rfl (by rw [Arr.u8s_size, HL.out]; kernel_rfl) ?_) | ((with_reducible refine gate_store (t := 39) (p := 2) rfl ?_); refine Arr.store_all rfl rfl rfl rfl rfl S2.out (by rw [Arr.u8s_size, HL.out]; kernel_rfl) (by rw [Arr.u8s_size, HL.out]; rfl) (Arr.u8s_one l) ?_; intro w9 hs9 hk9 hB9; have S9 := am_ hs9; have HB9 := am_ (hB9 _ _ HB.out G2.out); clear hs9 hk9 hB9))
   refine bodyPost_ret (results_cell_row rfl _ _ g2 39 (Arr.u8s l) (0, 0) _ rfl S9.out hu rfl (by rw [Arr.u8s_size, HL.out]; kernel_rfl)) rfl ?_
   exact ⟨rfl, HB9.out⟩

/-! ### laws_toPacket: function 25 -/
def laws_toPacket.f (a0_0 : Int) (a0_1 : Int) (a0_2 : Int) (a0_3 : Int) (a0_4 : Int) (a0_5 : Int) (a0_6 : Int) (a0_7 : Int) (a0_8 : Int) (a0_9 : Int) (a0_10 : Int) (a0_11 : Int) (a0_12 : Int) (a0_13 : Int) (a0_14 : Int) (a0_15 : Int) (a0_16 : Int) (a0_17 : Int) : Option (Int × Int × Int × Int × Int × Int × Int × Int × Int × Int × Int × Int × Int × Int × Int × Int × Int × Int) := some (a0_0, a0_1, a0_2, a0_3, a0_4, a0_5, a0_6, a0_7, a0_8, a0_9, a0_10, a0_11, a0_12, a0_13, a0_14, a0_15, a0_16, a0_17)
/-- The cells of a packet: two numbers and its frame's bytes. -/
def laws_toPacket.pk (a b : Int) (l : List Int) : Array Value := (Value.int .i64 a :: Value.int .i64 b :: l.map (Value.int .u8)).toArray
theorem laws_toPacket.pk_size (a b : Int) (l : List Int) : (laws_toPacket.pk a b l).size = l.length + 2 := by simp [laws_toPacket.pk]
theorem laws_toPacket.pk_one (a b : Int) (l : List Int) : (laws_toPacket.pk a b l).all (·.oneCell') = true := by simp [laws_toPacket.pk, Value.oneCell']
theorem laws_toPacket.pk_0 {w : World} {g : Nat} {a b : Int} {l : List Int} {t : TypeId} (h : w.heap[g]? = some (.cells (laws_toPacket.pk a b l) t (0, 0))) : w.cell? ⟨g, 0, none⟩ = some (.int .i64 a) := by
 rw [blk_cell h]
 simp [laws_toPacket.pk]
theorem laws_toPacket.pk_1 {w : World} {g : Nat} {a b : Int} {l : List Int} {t : TypeId} (h : w.heap[g]? = some (.cells (laws_toPacket.pk a b l) t (0, 0))) : w.cell? ⟨g, 1, none⟩ = some (.int .i64 b) := by
 rw [blk_cell h]
 simp [laws_toPacket.pk]
theorem laws_toPacket.pk_row {w : World} {g : Nat} {a b : Int} {l : List Int} {t : TypeId} (h : w.heap[g]? = some (.cells (laws_toPacket.pk a b l) t (0, 0))) (j : Nat) (v : Value) (hj : (l.map (Value.int .u8))[j]? = some v) : w.cell? ((⟨g, 2, none⟩ : Addr).add j) = some v := by
 rw [Addr.add_mid, blk_cell h]
 simp only [laws_toPacket.pk, List.getElem?_toArray]
 rw [show 2 + j = j + 1 + 1 by omega, List.getElem?_cons_succ, List.getElem?_cons_succ]
 exact hj
theorem laws_toPacket.pk_there {w : World} {g : Nat} {a b : Int} {l : List Int} {t : TypeId} (h : w.heap[g]? = some (.cells (laws_toPacket.pk a b l) t (0, 0))) (n : Nat) (hn : l.length = n) : w.there g 2 n := fun j hj => ⟨by
  have h1 := laws_toPacket.pk_row h j (.int .u8 (l.getD j 0)) (by simp [List.getElem?_eq_getElem (show j < l.length by omega), List.getD_eq_getElem?_getD])
  rw [Addr.add_mid] at h1
  rw [h1]
  rfl, blk_frozen h (2 + j)⟩
theorem laws_toPacket.put_0 {w : World} {g : Nat} {a b : Int} {l : List Int} {t : TypeId} (h : w.heap[g]? = some (.cells (laws_toPacket.pk a b l) t (0, 0))) (v : Int) : (w.setCell ⟨g, 0, none⟩ (.int .i64 v)).heap[g]? = some (.cells (laws_toPacket.pk v b l) t (0, 0)) := blk_put h 0 _ (by simp [laws_toPacket.pk])
theorem laws_toPacket.put_1 {w : World} {g : Nat} {a b : Int} {l : List Int} {t : TypeId} (h : w.heap[g]? = some (.cells (laws_toPacket.pk a b l) t (0, 0))) (v : Int) : (w.setCell ⟨g, 1, none⟩ (.int .i64 v)).heap[g]? = some (.cells (laws_toPacket.pk a v l) t (0, 0)) := blk_put h 1 _ (by simp [laws_toPacket.pk])
theorem laws_toPacket.put_row {g : Nat} {t : TypeId} : ∀ (new old pre : List Value) (w : World), old.length = new.length → w.heap[g]? = some (.cells (pre ++ old).toArray t (0, 0)) → (w.setCells g pre.length new).heap[g]? = some (.cells (pre ++ new).toArray t (0, 0))
 | [], old, pre, w, hl, h => by
  have : old = [] := List.length_eq_zero_iff.1 hl
  subst this
  exact h
 | v :: r, [], pre, w, hl, h => by simp at hl
 | v :: r, o :: old, pre, w, hl, h => by
  have h1 : (w.setCell ⟨g, pre.length, none⟩ v).heap[g]? = some (.cells ((pre ++ [v]) ++ old).toArray t (0, 0)) := blk_put h pre.length v (by simp)
  have h2 := laws_toPacket.put_row r old (pre ++ [v]) _ (by simpa using hl) h1
  rw [List.length_append] at h2
  simpa [World.setCells] using h2
theorem laws_toPacket.other_row {g g2 : Nat} {o : Obj} (hne : g2 ≠ g) : ∀ (new : List Value) (off : Nat) (w : World), w.heap[g]? = some o → (w.setCells g2 off new).heap[g]? = some o
 | [], _, _, h => h
 | v :: r, off, w, h => laws_toPacket.other_row hne r (off + 1) _ (Arr.blk_other h hne)
theorem laws_toPacket.list (a0_0 : Int) (a0_1 : Int) (a0_2 : Int) (a0_3 : Int) (a0_4 : Int) (a0_5 : Int) (a0_6 : Int) (a0_7 : Int) (a0_8 : Int) (a0_9 : Int) (a0_10 : Int) (a0_11 : Int) (a0_12 : Int) (a0_13 : Int) (a0_14 : Int) (a0_15 : Int) (a0_16 : Int) (a0_17 : Int) : (#[.int .i64 a0_0, .int .i64 a0_1, .int .u8 a0_2, .int .u8 a0_3, .int .u8 a0_4, .int .u8 a0_5, .int .u8 a0_6, .int .u8 a0_7, .int .u8 a0_8, .int .u8 a0_9, .int .u8 a0_10, .int .u8 a0_11, .int .u8 a0_12, .int .u8 a0_13, .int .u8 a0_14, .int .u8 a0_15, .int .u8 a0_16, .int .u8 a0_17] : Array Value) = laws_toPacket.pk a0_0 a0_1 [a0_2, a0_3, a0_4, a0_5, a0_6, a0_7, a0_8, a0_9, a0_10, a0_11, a0_12, a0_13, a0_14, a0_15, a0_16, a0_17] := rfl
set_option maxHeartbeats 4000000 in
set_option maxRecDepth 100000 in
theorem laws_toPacket.calls (a0_0 : Int) (a0_1 : Int) (a0_2 : Int) (a0_3 : Int) (a0_4 : Int) (a0_5 : Int) (a0_6 : Int) (a0_7 : Int) (a0_8 : Int) (a0_9 : Int) (a0_10 : Int) (a0_11 : Int) (a0_12 : Int) (a0_13 : Int) (a0_14 : Int) (a0_15 : Int) (a0_16 : Int) (a0_17 : Int) (r1 : Int) (r2 : Int) (r3 : Int) (r4 : Int) (r5 : Int) (r6 : Int) (r7 : Int) (r8 : Int) (r9 : Int) (r10 : Int) (r11 : Int) (r12 : Int) (r13 : Int) (r14 : Int) (r15 : Int) (r16 : Int) (r17 : Int) (r18 : Int) (w : World) (h : laws_toPacket.f a0_0 a0_1 a0_2 a0_3 a0_4 a0_5 a0_6 a0_7 a0_8 a0_9 a0_10 a0_11 a0_12 a0_13 a0_14 a0_15 a0_16 a0_17 = some (r1, r2, r3, r4, r5, r6, r7, r8, r9, r10, r11, r12, r13, r14, r15, r16, r17, r18)) :
  Calls Try.prog 25 #[.agg #[.int .i64 a0_0, .int .i64 a0_1, .int .u8 a0_2, .int .u8 a0_3, .int .u8 a0_4, .int .u8 a0_5, .int .u8 a0_6, .int .u8 a0_7, .int .u8 a0_8, .int .u8 a0_9, .int .u8 a0_10, .int .u8 a0_11, .int .u8 a0_12, .int .u8 a0_13, .int .u8 a0_14, .int .u8 a0_15, .int .u8 a0_16, .int .u8 a0_17]] w fun e w' => e = .returned (.agg #[.int .i64 r1, .int .i64 r2, .int .u8 r3, .int .u8 r4, .int .u8 r5, .int .u8 r6, .int .u8 r7, .int .u8 r8, .int .u8 r9, .int .u8 r10, .int .u8 r11, .int .u8 r12, .int .u8 r13, .int .u8 r14, .int .u8 r15, .int .u8 r16, .int .u8 r17, .int .u8 r18]) ∧ Below w.heap.size w w' := by
 have hu := Try.underlying41; have hu44 := Try.underlying44; have hu39 := Try.underlying39; have HB := am_ (Below.refl w.heap.size w)
 unfold laws_toPacket.f at h
 simp only [Option.some.injEq, Prod.mk.injEq] at h; obtain ⟨rfl, rfl, rfl, rfl, rfl, rfl, rfl, rfl, rfl, rfl, rfl, rfl, rfl, rfl, rfl, rfl, rfl, rfl⟩ := h
 have HCALL := am_ (show ∀ W : World, Calls Try.prog 53 #[.agg #[.int .u8 a0_2, .int .u8 a0_3, .int .u8 a0_4, .int .u8 a0_5, .int .u8 a0_6, .int .u8 a0_7, .int .u8 a0_8, .int .u8 a0_9, .int .u8 a0_10, .int .u8 a0_11, .int .u8 a0_12, .int .u8 a0_13, .int .u8 a0_14, .int .u8 a0_15, .int .u8 a0_16, .int .u8 a0_17]] W (fun e w' => e = .returned (.agg #[.int .u8 a0_2, .int .u8 a0_3, .int .u8 a0_4, .int .u8 a0_5, .int .u8 a0_6, .int .u8 a0_7, .int .u8 a0_8, .int .u8 a0_9, .int .u8 a0_10, .int .u8 a0_11, .int .u8 a0_12, .int .u8 a0_13, .int .u8 a0_14, .int .u8 a0_15, .int .u8 a0_16, .int .u8 a0_17]) ∧ Below W.heap.size W w') from fun W => laws_toByteA16.calls a0_2 a0_3 a0_4 a0_5 a0_6 a0_7 a0_8 a0_9 a0_10 a0_11 a0_12 a0_13 a0_14 a0_15 a0_16 a0_17 a0_2 a0_3 a0_4 a0_5 a0_6 a0_7 a0_8 a0_9 a0_10 a0_11 a0_12 a0_13 a0_14 a0_15 a0_16 a0_17 W (by simp only [laws_toByteA16.f]))
 rw [laws_toPacket.list a0_0 a0_1 a0_2 a0_3 a0_4 a0_5 a0_6 a0_7 a0_8 a0_9 a0_10 a0_11 a0_12 a0_13 a0_14 a0_15 a0_16 a0_17]
 rw [show (#[.int .u8 a0_2, .int .u8 a0_3, .int .u8 a0_4, .int .u8 a0_5, .int .u8 a0_6, .int .u8 a0_7, .int .u8 a0_8, .int .u8 a0_9, .int .u8 a0_10, .int .u8 a0_11, .int .u8 a0_12, .int .u8 a0_13, .int .u8 a0_14, .int .u8 a0_15, .int .u8 a0_16, .int .u8 a0_17] : Array Value) = ([a0_2, a0_3, a0_4, a0_5, a0_6, a0_7, a0_8, a0_9, a0_10, a0_11, a0_12, a0_13, a0_14, a0_15, a0_16, a0_17].map (Value.int .u8)).toArray from rfl] at HCALL
 generalize hl : [a0_2, a0_3, a0_4, a0_5, a0_6, a0_7, a0_8, a0_9, a0_10, a0_11, a0_12, a0_13, a0_14, a0_15, a0_16, a0_17] = l at HCALL ⊢
 have hlen : l.length = 16 := by rw [← hl]; rfl
 clear hl; have HL := am_ hlen; clear hlen
 go_enter Try.func25, Try.ntmps25
 go_upto_region 2 with (first | ((with_reducible refine gate_dst (N := 1) rfl ?_); refine box_event ?hg (N := 1) ?hd (cs := (laws_toPacket.pk a0_0 a0_1 l)) (t := 41) ?hr ?_; (case hd => rfl); (case hg => rfl); (case hr => first | (go_simp; done) | (go_simp; rfl)); intro g1 hg_ wg1 hbox_ hb_; have hg_g1 := am_ hg_; have hbox_g1 := am_ hbox_; have hb_g1 := am_ hb_; clear hg_ hbox_ hb_) | ((with_reducible refine gate_dst (N := 2) rfl ?_); refine box_event ?hg (N := 2) ?hd (cs := #[.int .i64 0, .int .i64 0, .int .u8 0, .int .u8 0, .int .u8 0, .int .u8 0, .int .u8 0, .int .u8 0, .int .u8 0, .int .u8 0, .int .u8 0, .int .u8 0, .int .u8 0, .int .u8 0, .int .u8 0, .int .u8 0, .int .u8 0, .int .u8 0]) (t := 44) ?hr ?_; (case hd => rfl); (case hg => rfl); (case hr => first | (go_simp; done) | (go_simp; rfl)); intro g2 hg_ wg2 hbox_ hb_; have hg_g2 := am_ hg_; have hbox_g2 := am_ hbox_; have hb_g2 := am_ hb_; clear hg_ hbox_ hb_) | ((with_reducible refine gate_dst (N := 3) rfl ?_); refine box_event ?hg (N := 3) ?hd (cs := #[.int .i64 0, .int .i64 0, .int .u8 0, .int .u8 0, .int .u8 0, .int .u8 0, .int .u8 0, .int .u8 0, .int .u8 0, .int .u8 0, .int .u8 0, .int .u8 0, .int .u8 0, .int .u8 0, .int .u8 0, .int .u8 0, .int .u8 0, .int .u8 0]) (t := 44) ?hr ?_; (case hd => rfl); (case hg => rfl); (case hr => first | (go_simp; done) | (go_simp; rfl)); intro g3 hg_ wg3 hbox_ hb_; have hg_g3 := am_ hg_; have hbox_g3 := am_ hbox_; have hb_g3 := am_ hb_; clear hg_ hbox_ hb_))
 have S1 := am_ (blk_below (blk_below hbox_g1.out hb_g2.out) hb_g3.out); have S2 := am_ (show wg3.heap[g2]? = some (.cells (laws_toPacket.pk 0 0 (List.replicate 16 0)) 44 (0, 0)) from blk_below hbox_g2.out hb_g3.out); have S3 := am_ (show wg3.heap[g3]? = some (.cells (laws_toPacket.pk 0 0 (List.replicate 16 0)) 44 (0, 0)) from hbox_g3.out)
 have N13 := am_ (show g1 ≠ g3 by rw [hg_g3.out]; exact Nat.ne_of_lt (blk_lt (blk_below hbox_g1.out hb_g2.out)))
 have N23 := am_ (show g2 ≠ g3 by rw [hg_g3.out]; exact Nat.ne_of_lt (blk_lt hbox_g2.out))
 have HB3 := am_ (below_step (below_step hb_g1.out hb_g2.out) hb_g3.out)
 have G2 := am_ (show w.heap.size ≤ g2 by rw [hg_g2.out]; exact below_size hb_g1.out)
 have G3 := am_ (show w.heap.size ≤ g3 by rw [hg_g3.out]; exact below_size (below_step hb_g1.out hb_g2.out))
 clear hbox_g1 hbox_g2 hbox_g3 hb_g1 hb_g2 hb_g3 hg_g1 hg_g2 hg_g3 HB; have hc10 := laws_toPacket.pk_0 S1.out; have hc11 := laws_toPacket.pk_1 S1.out; have hc30 := laws_toPacket.pk_0 S3.out; have hc31 := laws_toPacket.pk_1 S3.out; have hf30 := blk_frozen S3.out 0; have hf31 := blk_frozen S3.out 1; have hn13 := N13.out; have hn31 := N13.out.symm
 go_upto_region 4 with (fail)
 have T1 := am_ (Arr.blk_other (j := 1) (v := .int .i64 a0_1) (Arr.blk_other (j := 0) (v := .int .i64 a0_0) S1.out hn31) hn31); have T2 := am_ (Arr.blk_other (j := 1) (v := .int .i64 a0_1) (Arr.blk_other (j := 0) (v := .int .i64 a0_0) S2.out N23.out.symm) N23.out.symm); have T3 := am_ (laws_toPacket.put_1 (laws_toPacket.put_0 S3.out a0_0) a0_1); have HB := am_ (below_set (j := 1) (v := .int .i64 a0_1) (below_set (j := 0) (v := .int .i64 a0_0) HB3.out G3.out) G3.out); clear S1 S2 S3 HB3 hc10 hc11 hc30 hc31 hf30 hf31
 have hlm := am_ (show (l.map (Value.int .u8)).length = 16 by rw [List.length_map]; exact HL.out)
 go_upto_region 5 with (first | ((with_reducible refine gate_dst (N := 11) rfl ?_); refine Arl.load_list (cl := l.map (Value.int .u8)) rfl rfl rfl rfl (fun j v hj => laws_toPacket.pk_row T1.out j v hj) hu39 rfl (by rw [hlm.out]; kernel_rfl) ?_) | (go_at_call 53; (with_reducible refine (HCALL.out _).mono ?_); rintro e w5 ⟨rfl, hb_⟩; (try refine ⟨_, rfl, ?_⟩); have n1_ := am_ (blk_below T2.out hb_); have n2_ := am_ (blk_below T3.out hb_); have n3_ := am_ (below_step HB.out hb_); clear T1 T2 T3 HB; have T2 := n1_; have T3 := n2_; have HB := n3_; clear n1_ n2_ n3_ hb_) | ((with_reducible refine gate_store (t := 39) (p := 13) rfl ?_); refine Arl.store_list (T := 39) (p := 13) (g := g3) (off := 2) (cl := l.map (Value.int .u8)) rfl rfl rfl rfl rfl ?hb ?hi ?h1 ?_; (case hb => rw [hlm.out]; exact laws_toPacket.pk_there T3.out 16 (by simp)); (case hi => rw [hlm.out]; kernel_rfl); (case h1 => simp [Value.oneCell']); intro w6 hw_; have n1_ := am_ (show w6.heap[g2]? = some (.cells (laws_toPacket.pk 0 0 (List.replicate 16 0)) 44 (0, 0)) by rw [hw_]; exact laws_toPacket.other_row N23.out.symm _ _ _ T2.out); have n2_ := am_ (show w6.heap[g3]? = some (.cells (laws_toPacket.pk a0_0 a0_1 l) 44 (0, 0)) by rw [hw_]; exact laws_toPacket.put_row (l.map (Value.int .u8)) ((List.replicate 16 (0 : Int)).map (Value.int .u8)) [.int .i64 a0_0, .int .i64 a0_1] _ (by rw [hlm.out]; simp) T3.out); have n3_ := am_ (show Below w.heap.size w w6 by rw [hw_]; exact Arl.below_cells HB.out G3.out _ _ _ HB.out); clear T2 T3 HB hw_; have T2 := n1_; have T3 := n2_; have HB := n3_; clear n1_ n2_ n3_))
 go_wp2_with (first | ((with_reducible refine gate_dst (N := 14) rfl ?_); refine Arr.load_all rfl rfl rfl rfl T3.out hu44 rfl (by rw [laws_toPacket.pk_size, HL.out]; kernel_rfl) ?_) | ((with_reducible refine gate_store (t := 44) (p := 2) rfl ?_); refine Arr.store_all (T := 44) (p := 2) (g := g2) (cs := laws_toPacket.pk a0_0 a0_1 l) (t := 44) rfl rfl rfl rfl rfl T2.out (by rw [laws_toPacket.pk_size, HL.out]; kernel_rfl) (by simp [laws_toPacket.pk_size, HL.out]) (laws_toPacket.pk_one _ _ _) ?_; intro w9 hs9 hk9 hB9; have S9 := am_ hs9; have HB9 := am_ (hB9 _ _ HB.out G2.out); clear hs9 hk9 hB9))
 refine bodyPost_ret (results_cell_row rfl _ _ g2 44 (laws_toPacket.pk a0_0 a0_1 l) (0, 0) _ rfl S9.out hu44 rfl (by rw [laws_toPacket.pk_size, HL.out]; kernel_rfl)) rfl ?_
 exact ⟨rfl, HB9.out⟩

/-! ### laws_toPacketS: function 14 -/
def laws_toPacketS.l0 : Nat → List (S41) → List (S44) → Int → Option ((List (S44)))
 | 0, _, _, _ => none
 | k + 1, x0, x3, x4 => if x4 < (x0.length : Int) then (if 0 ≤ x4 then ((laws_toPacket.f ((rd_T41 x0 x4).f0) ((rd_T41 x0 x4).f1) ((rd_T41 x0 x4).f2.f0) ((rd_T41 x0 x4).f2.f1) ((rd_T41 x0 x4).f2.f2) ((rd_T41 x0 x4).f2.f3) ((rd_T41 x0 x4).f2.f4) ((rd_T41 x0 x4).f2.f5) ((rd_T41 x0 x4).f2.f6) ((rd_T41 x0 x4).f2.f7) ((rd_T41 x0 x4).f2.f8) ((rd_T41 x0 x4).f2.f9) ((rd_T41 x0 x4).f2.f10) ((rd_T41 x0 x4).f2.f11) ((rd_T41 x0 x4).f2.f12) ((rd_T41 x0 x4).f2.f13) ((rd_T41 x0 x4).f2.f14) ((rd_T41 x0 x4).f2.f15)).bind fun bt143 => (if x4 < (x3.length : Int) then (laws_toPacketS.l0 k x0 (x3.set (x4 : Int).toNat (⟨bt143.1, bt143.2.1, (⟨bt143.2.2.1, bt143.2.2.2.1, bt143.2.2.2.2.1, bt143.2.2.2.2.2.1, bt143.2.2.2.2.2.2.1, bt143.2.2.2.2.2.2.2.1, bt143.2.2.2.2.2.2.2.2.1, bt143.2.2.2.2.2.2.2.2.2.1, bt143.2.2.2.2.2.2.2.2.2.2.1, bt143.2.2.2.2.2.2.2.2.2.2.2.1, bt143.2.2.2.2.2.2.2.2.2.2.2.2.1, bt143.2.2.2.2.2.2.2.2.2.2.2.2.2.1, bt143.2.2.2.2.2.2.2.2.2.2.2.2.2.2.1, bt143.2.2.2.2.2.2.2.2.2.2.2.2.2.2.2.1, bt143.2.2.2.2.2.2.2.2.2.2.2.2.2.2.2.2.1, bt143.2.2.2.2.2.2.2.2.2.2.2.2.2.2.2.2.2⟩ : S39)⟩ : S44)) (wrap64 (x4 + 1))) else (none))) else (none)) else (some x3)
def laws_toPacketS.f (k : Nat) (l0 : List (S41)) : Option ((List (S44))) := if 0 ≤ (l0.length : Int) then (if ((l0.length : Int) : Int).toNat ≤ 8796093022208 then (laws_toPacketS.l0 k l0 (List.replicate ((l0.length : Int) : Int).toNat z44) 0) else (none)) else (none)
theorem laws_toPacketS.mono_l : ∀ k, (∀ y0 y1 y2, LeO (laws_toPacketS.l0 k y0 y1 y2) (laws_toPacketS.l0 (k + 1) y0 y1 y2))
 | 0 => fun _ _ _ r h => by simp [laws_toPacketS.l0] at h
 | k + 1 => by
  have ih0 := laws_toPacketS.mono_l k
  intro y0 y1 y2
  unfold laws_toPacketS.l0
  repeat' first
   | (with_reducible exact ih0 _ _ _)
   | (with_reducible exact LeO.refl _)
   | (with_reducible exact LeO.none _)
   | (with_reducible refine LeO.ite ?_ ?_)
   | (with_reducible refine LeO.bind ?_ (fun _ => ?_))
   | exact ih0 _ _ _
theorem laws_toPacketS.mono : ∀ a0 k, LeO (laws_toPacketS.f k a0) (laws_toPacketS.f (k + 1) a0) := by
 intro a0 k
 have ih0 := laws_toPacketS.mono_l k
 unfold laws_toPacketS.f
 repeat' first
  | (with_reducible exact ih0 _ _ _)
  | (with_reducible exact LeO.refl _)
  | (with_reducible exact LeO.none _)
  | (with_reducible refine LeO.ite ?_ ?_)
  | exact ih0 _ _ _
theorem laws_toPacketS.info : (Try.prog.info? 44).map (fun i => (i.zero, i.size, i.bytes)) = some (some (.agg #[(.int .i64 0), (.int .i64 0), (.int .u8 0), (.int .u8 0), (.int .u8 0), (.int .u8 0), (.int .u8 0), (.int .u8 0), (.int .u8 0), (.int .u8 0), (.int .u8 0), (.int .u8 0), (.int .u8 0), (.int .u8 0), (.int .u8 0), (.int .u8 0), (.int .u8 0), (.int .u8 0)]), 18, 32) := by kernel_rfl
set_option maxHeartbeats 8000000 in
set_option maxRecDepth 100000 in
theorem laws_toPacketS.calls (k : Nat) (A0 : Option Addr) (c0 : Nat) (l0 : List (S41)) (r : List (S44)) (w : World) (hr0 : Kd.C k41 w A0 l0.length l0) (hc0 : l0.length ≤ c0) (h : laws_toPacketS.f k l0 = some r) :
  Calls Try.prog 14 #[.slice A0 l0.length c0] w fun e w' => ∃ v0_ : Value, e = .returned (v0_) ∧ Kd.R k44 44 w' w.heap.size (fun _ => True) v0_ r ∧ Below w.heap.size w w' := by
 have hu41 := Try.underlying41; have hu44 := Try.underlying44; have HR0 := am_ hr0; have HC0 := am_ hc0; clear hr0 hc0; have HB := am_ (Below.refl w.heap.size w); have H := h; rw [laws_toPacketS.f] at H; clear h
 by_cases c2 : 0 ≤ (l0.length : Int)
 case neg => omega
 rw [if_pos c2] at H; have c2b1 : decide (0 ≤ (l0.length : Int)) = true := decide_eq_true c2
 by_cases c3 : ((l0.length : Int) : Int).toNat ≤ 8796093022208
 case neg => rw [if_neg c3] at H; cases H
 rw [if_pos c3] at H; have c3b1 : decide (((l0.length : Int) : Int).toNat ≤ 8796093022208) = true := decide_eq_true c3; have C3 := am_ c3; have c2b0 := eq_true c2; clear c2 c3; obtain ⟨y139, hy139⟩ : ∃ y_ : List (S44), y_ = (List.replicate ((l0.length : Int) : Int).toNat z44) := ⟨_, rfl⟩; rw [← hy139] at H; have Ny139 := am_ hy139; clear hy139
 have H' := am_ H
 clear H
 go_enter Try.func14, Try.ntmps14
 go_wp2_with (first | ((with_reducible refine gate_dst (N := 7) rfl ?_); refine Kd.R_make k44 _ 44 rfl (N := 7) rfl 26 _ _ rfl (l0.length : Int) rfl rfl Try.underlying26 (.agg #[(.int .i64 0), (.int .i64 0), (.int .u8 0), (.int .u8 0), (.int .u8 0), (.int .u8 0), (.int .u8 0), (.int .u8 0), (.int .u8 0), (.int .u8 0), (.int .u8 0), (.int .u8 0), (.int .u8 0), (.int .u8 0), (.int .u8 0), (.int .u8 0), (.int .u8 0), (.int .u8 0)]) 32 laws_toPacketS.info rfl (by decide) (by omega) z44 (ok := fun _ => True) (okp := fun _ => True) (k44_mkM _ _ _ z44 ) (fun _ hk => hk) trivial (by omega) (Nat.le_trans (Nat.mul_le_mul_right _ C3.out) (by omega)) (Below.refl _ _) (Nat.le_refl _) ?_; intro v140 w4 ho5 hb hg_ hnew_; clear hg_ hnew_; (first | rw [← Ny139.out] at ho5 | (simp only [Int.reduceToNat] at ho5; rw [← Ny139.out] at ho5)); have HO_3 := am_ (Kd.R_lower ho5 (below_size belowNow)); replace HB := am_ (below_step belowNow hb); clear hb ho5))
 go_loopg [4] k (fun kq v4 w' => ∃ (x3_1 : List (S44)) (x4_1 : Int), v4 = .int .i64 x4_1 ∧ Aside0 (laws_toPacketS.l0 kq l0 x3_1 x4_1 = some r) ∧ Aside0 (kq ≤ k) ∧ Aside0 (Kd.R k44 44 w' w.heap.size (fun _ => True) v140 x3_1) ∧ Aside0 (Below w.heap.size w w'))
 case atStart => exact ⟨y139, 0, rfl, H', ⟨Nat.le_refl _⟩, HO_3, HB⟩
 case round =>
  clear H' HO_3 HB c2b1 c3b1 c2b0
  obtain ⟨x3_1, x4_1, rfl, HA, HK1, HO_3, HB⟩ := hrel
  cases gk with
  | zero => exact absurd HA.out (by simp [laws_toPacketS.l0])
  | succ k1 =>
   have H := HA.out; clear HA; simp only [laws_toPacketS.l0] at H
   by_cases c6 : x4_1 < (l0.length : Int)
   case neg =>
    rw [if_neg c6] at H; have c6b0 : decide (x4_1 < (l0.length : Int)) = false := decide_eq_false c6; clear c6; obtain rfl := Option.some.inj H; clear H
    go_wp2
    go_ret
    exact ⟨_, rfl, HO_3.out, HB.out⟩

   rw [if_pos c6] at H; have c6b0 : decide (x4_1 < (l0.length : Int)) = true := decide_eq_true c6
   by_cases c7 : 0 ≤ x4_1
   case neg => rw [if_neg c7] at H; cases H
   rw [if_pos c7] at H; have c7b0 : decide (0 ≤ x4_1) = true := decide_eq_true c7; obtain ⟨⟨t0, t1, t2, t3, t4, t5, t6, t7, t8, t9, t10, t11, t12, t13, t14, t15, t16, t17⟩, A80, H⟩ := Option.bind_eq_some_iff.mp H
   by_cases c9 : x4_1 < (x3_1.length : Int)
   case neg => rw [if_neg c9] at H; cases H
   rw [if_pos c9] at H; have c9b0 : decide (x4_1 < (x3_1.length : Int)) = true := decide_eq_true c9
   have H' := am_ H
   clear H; obtain ⟨ad0, cl, e142, hcn, hK, hcc⟩ := Kd.C_get HR0.out z41 x4_1 c7 c6
   cases e142
   have HCN := am_ (show cl.length = 18 from hcn)
   have HCC := am_ (show ∀ (j : Nat) (v : Value), cl[j]? = some v → w.cell? ((ad0.add (x4_1.toNat * 18)).add j) = some v from fun j v hj => by rw [Addr.add_add]; exact hcc j v hj)
   have HCL := am_ (show cl = [.int .i64 ((rd_T41 l0 x4_1).f0), .int .i64 ((rd_T41 l0 x4_1).f1), .int .u8 ((rd_T41 l0 x4_1).f2.f0), .int .u8 ((rd_T41 l0 x4_1).f2.f1), .int .u8 ((rd_T41 l0 x4_1).f2.f2), .int .u8 ((rd_T41 l0 x4_1).f2.f3), .int .u8 ((rd_T41 l0 x4_1).f2.f4), .int .u8 ((rd_T41 l0 x4_1).f2.f5), .int .u8 ((rd_T41 l0 x4_1).f2.f6), .int .u8 ((rd_T41 l0 x4_1).f2.f7), .int .u8 ((rd_T41 l0 x4_1).f2.f8), .int .u8 ((rd_T41 l0 x4_1).f2.f9), .int .u8 ((rd_T41 l0 x4_1).f2.f10), .int .u8 ((rd_T41 l0 x4_1).f2.f11), .int .u8 ((rd_T41 l0 x4_1).f2.f12), .int .u8 ((rd_T41 l0 x4_1).f2.f13), .int .u8 ((rd_T41 l0 x4_1).f2.f14), .int .u8 ((rd_T41 l0 x4_1).f2.f15)] from k41_open hK); clear hcn hcc hK; obtain ⟨dl, hdl⟩ : ∃ dl : List Value, dl = [.int .i64 t0, .int .i64 t1, .int .u8 t2, .int .u8 t3, .int .u8 t4, .int .u8 t5, .int .u8 t6, .int .u8 t7, .int .u8 t8, .int .u8 t9, .int .u8 t10, .int .u8 t11, .int .u8 t12, .int .u8 t13, .int .u8 t14, .int .u8 t15, .int .u8 t16, .int .u8 t17] := ⟨_, rfl⟩; have HDL := am_ hdl
   have HDN := am_ (show dl.length = 18 by rw [hdl]; rfl)
   have HCALL := am_ (show ∀ W : World, Calls Try.prog 25 #[.agg cl.toArray] W (fun e w' => e = .returned (.agg dl.toArray) ∧ Below W.heap.size W w') from fun W => by rw [HCL.out, hdl]; exact laws_toPacket.calls _ _ _ _ _ _ _ _ _ _ _ _ _ _ _ _ _ _ _ _ _ _ _ _ _ _ _ _ _ _ _ _ _ _ _ _ W A80)
   clear hdl A80
   obtain ⟨go10, co10, eo10, gb10, gl10, cl10, HG10⟩ := Kd.R_form HO_3.out (by omega)
   (first | cases eo10 | (injection eo10 with ea_ en_ ec_; (first | subst ea_ | (injection ea_ with ea_; subst ea_)); subst ec_; clear en_))
   have GB10 := am_ gb10; clear gb10 gl10 HG10; have P7 := am_ c7; have P9 := am_ c9; have p7 := eq_true c7; have p6 := eq_true c6; have p9 := eq_true c9; clear c6 c7 c9
   go_wp2_with (first | ((with_reducible refine gate_dst (N := 19) rfl ?_); refine Arl.load_list (cl := cl) rfl rfl rfl rfl (fun j v hj => (show Below w.heap.size w _ from belowNow).cell (World.block_lt_of_cell? w _ (HCC.out j v hj)) |>.trans (HCC.out j v hj)) Try.underlying41 rfl (by rw [HCN.out]; kernel_rfl) ?_) | (go_at_call 25; (with_reducible refine (HCALL.out _).mono ?_); rintro e w11 ⟨rfl, hb⟩; (try refine ⟨_, rfl, ?_⟩); have n0_ := am_ (Kd.R_below (pR_ HO_3.out) hb); have n1_ := am_ (below_step belowNow hb); clear HO_3 HB; have HO_3 := n0_; have HB := n1_; clear n0_ n1_ hb) | ((with_reducible refine gate_store (t := 44) (p := 21) rfl ?_); obtain ⟨ce, hcl, hM, hcc, hfr⟩ := Kd.R_elem HO_3.out z44 x4_1 P7.out P9.out; refine Arl.store_list (T := 44) (p := 21) (cl := dl) rfl rfl rfl rfl rfl (fun j hj => ⟨Arl.some_of (hcc j) (by have h1 := HDN.out; have h2 : ce.length = 18 := hcl; omega), hfr j⟩) (by rw [HDN.out]; kernel_rfl) (by rw [HDL.out]; simp [Value.oneCell']) ?_; intro w13 hw; have HP := Kd.R_seg HO_3.out x4_1 P7.out P9.out (seg := dl) (j := 0) hcl hcc (show 0 + dl.length ≤ 18 by rw [HDN.out]; decide) (okp := fun _ => False) (x' := (⟨t0, t1, (⟨t2, t3, t4, t5, t6, t7, t8, t9, t10, t11, t12, t13, t14, t15, t16, t17⟩ : S39)⟩ : S44)) (by rw [show ce.take 0 ++ dl ++ ce.drop (0 + dl.length) = dl by (rw [HDN.out, List.drop_eq_nil_of_le (by (have h2 : ce.length = 18 := hcl); omega)]; simp)]; rw [HDL.out]; exact k44_mkM _ _ _ (⟨t0, t1, (⟨t2, t3, t4, t5, t6, t7, t8, t9, t10, t11, t12, t13, t14, t15, t16, t17⟩ : S39)⟩ : S44)) (fun _ hk => hk.elim); have n0_ := am_ (show Kd.R k44 44 w13 w.heap.size (fun _ => True) _ _ from by rw [hw]; exact HP.1); have n1_ := am_ (show Below w.heap.size w w13 by rw [hw]; exact Arl.below_cells HB.out GB10.out dl _ _ HB.out); clear HO_3 HB HP hcl hM hcc hfr hw; have HO_3 := n0_; have HB := n1_; clear n0_ n1_))
   go_roundg k1
   case measure => have := HK1.out; omega
   case rel => exact ⟨_, (wrap64 (x4_1 + 1)), rfl, H', ⟨by have := HK1.out; omega⟩, HO_3, HB⟩
/-! ### laws_toPlayer: function 19 -/
def laws_toPlayer.f (k : Nat) (a0_0 : Int) (a0_1 : Int) (a0_2 : Int) (a0_3 : Int) (a0_4 : Int) (l0_5 : List (S41)) : Option (Int × Int × Int × Int × Int × (List (S44))) := (laws_toPacketS.f k l0_5).bind fun t106 => (some (a0_0, a0_1, a0_2, a0_3, a0_4, t106))
theorem laws_toPlayer.mono : ∀ a0 a1 a2 a3 a4 a5 k, LeO (laws_toPlayer.f k a0 a1 a2 a3 a4 a5) (laws_toPlayer.f (k + 1) a0 a1 a2 a3 a4 a5) := by
 intro a0 a1 a2 a3 a4 a5 k
 unfold laws_toPlayer.f
 repeat' first
   | (with_reducible exact laws_toPacketS.mono _ _)
   | (with_reducible exact LeO.refl _)
   | (with_reducible exact LeO.none _)
   | (with_reducible refine LeO.ite ?_ ?_)
   | (with_reducible refine LeO.bind ?_ (fun _ => ?_))
   | exact laws_toPacketS.mono _ _
   | exact LeO.none _
   | refine LeO.ite ?_ ?_
   | refine LeO.bind ?_ (fun _ => ?_)
set_option maxHeartbeats 8000000 in
set_option maxRecDepth 100000 in
theorem laws_toPlayer.calls (k : Nat) (a0_0 : Int) (a0_1 : Int) (a0_2 : Int) (a0_3 : Int) (a0_4 : Int) (A0_5 : Option Addr) (c0_5 : Nat) (l0_5 : List (S41)) (r1 : Int) (r2 : Int) (r3 : Int) (r4 : Int) (r5 : Int) (r6 : List (S44)) (w : World) (hr0_5 : Kd.C k41 w A0_5 l0_5.length l0_5) (hc0_5 : l0_5.length ≤ c0_5) (h : laws_toPlayer.f k a0_0 a0_1 a0_2 a0_3 a0_4 l0_5 = some (r1, r2, r3, r4, r5, r6)) :
  Calls Try.prog 19 #[.agg #[.int .i64 a0_0, .int .i64 a0_1, .int .i64 a0_2, .int .i64 a0_3, .int .i64 a0_4, .slice A0_5 l0_5.length c0_5]] w fun e w' => ∃ v5_ : Value, e = .returned (.agg #[.int .i64 r1, .int .i64 r2, .int .i64 r3, .int .i64 r4, .int .i64 r5, v5_]) ∧ Kd.R k44 44 w' w.heap.size (fun _ => True) v5_ r6 ∧ Below w.heap.size w w' := by
 have hu31 := Try.underlying31; have hu35 := Try.underlying35; have HR0_5 := am_ hr0_5; have HC0_5 := am_ hc0_5; clear hr0_5 hc0_5; have HB := am_ (Below.refl w.heap.size w)
 have H : ((laws_toPacketS.f k l0_5).bind fun t106 => (some (a0_0, a0_1, a0_2, a0_3, a0_4, t106))) = some (r1, r2, r3, r4, r5, r6) := h
 clear h; replace H := Option.bind_eq_some_iff.mp H; obtain ⟨t106, A20, H⟩ := H
 replace H : (some (a0_0, a0_1, a0_2, a0_3, a0_4, t106)) = some (r1, r2, r3, r4, r5, r6) := H
 have A2 := am_ A20; clear A20; simp only [Option.some.injEq, Prod.mk.injEq] at H; obtain ⟨rfl, rfl, rfl, rfl, rfl, rfl⟩ := H
 go_enter Try.func19, Try.ntmps19
 go_wp2_with (first | ((with_reducible refine gate_dst (N := 1) rfl ?_); refine box_event ?hg (N := 1) ?hd (cs := #[.int .i64 a0_0, .int .i64 a0_1, .int .i64 a0_2, .int .i64 a0_3, .int .i64 a0_4, .slice A0_5 l0_5.length c0_5]) (t := 31) ?hr ?_; (case hd => rfl); (case hg => rfl); (case hr => first | (go_simp; done) | (go_simp; rfl)); intro gb103 hg w3 hbox hb; have n0_ := am_ (below_step belowNow hb); have n1_ := am_ (hbox); have n2_ := am_ ((by rw [hg]; exact (below_size belowNow) : w.heap.size ≤ gb103)); have n3_ := n2_; clear HB; have HB := n0_; have BK103 := n1_; have GW103 := n2_; have GE103 := n3_; clear n0_ n1_ n2_ n3_; clear hb hbox hg) | ((with_reducible refine gate_dst (N := 2) rfl ?_); refine box_event ?hg (N := 2) ?hd (cs := #[.int .i64 0, .int .i64 0, .int .i64 0, .int .i64 0, .int .i64 0, .slice none 0 0]) (t := 35) ?hr ?_; (case hd => rfl); (case hg => rfl); (case hr => first | (go_simp; done) | (go_simp; rfl)); intro gb104 hg w4 hbox hb; have n0_ := am_ (blkStep (g := gb103) hb); have n1_ := am_ (below_step belowNow hb); have n2_ := am_ (hbox); have n3_ := am_ ((by rw [hg]; exact (below_size belowNow) : w.heap.size ≤ gb104)); have n4_ := n3_; have n5_ := am_ ((by rw [hg]; exact Nat.ne_of_lt (blkLt (g := gb103)) : gb103 ≠ gb104)); have n6_ := am_ ((by rw [hg]; exact Nat.ne_of_gt (blkLt (g := gb103)) : gb104 ≠ gb103)); clear BK103; clear HB; have BK103 := n0_; have HB := n1_; have BK104 := n2_; have GW104 := n3_; have GE104 := n4_; have NB103_104 := n5_; have NB104_103 := n6_; clear n0_ n1_ n2_ n3_ n4_ n5_ n6_; clear hb hbox hg) | ((with_reducible refine gate_dst (N := 3) rfl ?_); refine box_event ?hg (N := 3) ?hd (cs := #[.int .i64 0, .int .i64 0, .int .i64 0, .int .i64 0, .int .i64 0, .slice none 0 0]) (t := 35) ?hr ?_; (case hd => rfl); (case hg => rfl); (case hr => first | (go_simp; done) | (go_simp; rfl)); intro gb105 hg w5 hbox hb; have n0_ := am_ (blkStep (g := gb103) hb); have n1_ := am_ (blkStep (g := gb104) hb); have n2_ := am_ (below_step belowNow hb); have n3_ := am_ (hbox); have n4_ := am_ ((by rw [hg]; exact (below_size belowNow) : w.heap.size ≤ gb105)); have n5_ := n4_; have n6_ := am_ ((by rw [hg]; exact Nat.ne_of_lt (blkLt (g := gb103)) : gb103 ≠ gb105)); have n7_ := am_ ((by rw [hg]; exact Nat.ne_of_gt (blkLt (g := gb103)) : gb105 ≠ gb103)); have n8_ := am_ ((by rw [hg]; exact Nat.ne_of_lt (blkLt (g := gb104)) : gb104 ≠ gb105)); have n9_ := am_ ((by rw [hg]; exact Nat.ne_of_gt (blkLt (g := gb104)) : gb105 ≠ gb104)); clear BK103; clear BK104; clear HB; have BK103 := n0_; have BK104 := n1_; have HB := n2_; have BK105 := n3_; have GW105 := n4_; have GE105 := n5_; have NB103_105 := n6_; have NB105_103 := n7_; have NB104_105 := n8_; have NB105_104 := n9_; clear n0_ n1_ n2_ n3_ n4_ n5_ n6_ n7_ n8_ n9_; clear hb hbox hg; have ⟨hnb6, hnc6⟩ := nn1_ NB103_104.out; have ⟨hnb7, hnc7⟩ := nn1_ NB103_105.out; have hcz8_0 := cz1_ BK103.out 0 rfl; have hcz8_1 := cz1_ BK103.out 1 rfl; have hcz8_2 := cz1_ BK103.out 2 rfl; have hcz8_3 := cz1_ BK103.out 3 rfl; have hcz8_4 := cz1_ BK103.out 4 rfl; have hcz8_5 := cz1_ BK103.out 5 rfl; have hfz8_0 := blk_frozen BK103.out 0; have hfz8_1 := blk_frozen BK103.out 1; have hfz8_2 := blk_frozen BK103.out 2; have hfz8_3 := blk_frozen BK103.out 3; have hfz8_4 := blk_frozen BK103.out 4; have hfz8_5 := blk_frozen BK103.out 5; have ⟨hnb9, hnc9⟩ := nn1_ NB105_104.out; have hcz10_0 := cz1_ BK105.out 0 rfl; have hcz10_1 := cz1_ BK105.out 1 rfl; have hcz10_2 := cz1_ BK105.out 2 rfl; have hcz10_3 := cz1_ BK105.out 3 rfl; have hcz10_4 := cz1_ BK105.out 4 rfl; have hcz10_5 := cz1_ BK105.out 5 rfl; have hfz10_0 := blk_frozen BK105.out 0; have hfz10_1 := blk_frozen BK105.out 1; have hfz10_2 := blk_frozen BK105.out 2; have hfz10_3 := blk_frozen BK105.out 3; have hfz10_4 := blk_frozen BK105.out 4; have hfz10_5 := blk_frozen BK105.out 5) | ((with_reducible refine gate_callee (f := 14) rfl ?_); refine goesL_ (some 21) rfl rfl Try.func14 (by kernel_rfl) rfl #[.slice A0_5 l0_5.length c0_5] rfl (by (try simp only [List.map_toArray, List.map_cons, List.map_nil]); first | done | rfl | (simp only [List.length_drop, List.length_take]; rfl)) ?_; (with_reducible refine (laws_toPacketS.calls k _ _ l0_5 t106 _ ?side1 ?side2 A2.out).mono ?_); (case side1 => exact Kd.C_below HR0_5.out belowNow); (case side2 => exact HC0_5.out); rintro e w11 ⟨v107, rfl, ho0, hb⟩; refine ⟨_, rfl, ?_⟩; have HO108 := am_ (Kd.R_lower ho0 (below_size belowNow)); replace BK103 := am_ (blk_below (g := gb103) (o := .cells #[.int .i64 a0_0, .int .i64 a0_1, .int .i64 a0_2, .int .i64 a0_3, .int .i64 a0_4, .slice A0_5 l0_5.length c0_5] 31 (0, 0)) (blkFars) hb); replace BK104 := am_ (blk_below (g := gb104) (o := .cells #[.int .i64 0, .int .i64 0, .int .i64 0, .int .i64 0, .int .i64 0, .slice none 0 0] 35 (0, 0)) (blkFars) hb); replace BK105 := am_ (blk_below (g := gb105) (o := .cells #[.int .i64 a0_0, .int .i64 a0_1, .int .i64 a0_2, .int .i64 a0_3, .int .i64 a0_4, .slice none 0 0] 35 (0, 0)) (by (with_reducible repeat (first | refine blk_drewN ?_ _ | refine blk_drew ?_ | refine blk_alloc ?_ _)); refine blk_put (cs := #[.int .i64 a0_0, .int .i64 a0_1, .int .i64 a0_2, .int .i64 a0_3, .int .i64 0, .slice none 0 0]) ?_ 4 _ rfl; (with_reducible repeat (first | refine blk_drewN ?_ _ | refine blk_drew ?_ | refine blk_alloc ?_ _)); refine blk_put (cs := #[.int .i64 a0_0, .int .i64 a0_1, .int .i64 a0_2, .int .i64 0, .int .i64 0, .slice none 0 0]) ?_ 3 _ rfl; (with_reducible repeat (first | refine blk_drewN ?_ _ | refine blk_drew ?_ | refine blk_alloc ?_ _)); refine blk_put (cs := #[.int .i64 a0_0, .int .i64 a0_1, .int .i64 0, .int .i64 0, .int .i64 0, .slice none 0 0]) ?_ 2 _ rfl; (with_reducible repeat (first | refine blk_drewN ?_ _ | refine blk_drew ?_ | refine blk_alloc ?_ _)); refine blk_put (cs := #[.int .i64 a0_0, .int .i64 0, .int .i64 0, .int .i64 0, .int .i64 0, .slice none 0 0]) ?_ 1 _ rfl; (with_reducible repeat (first | refine blk_drewN ?_ _ | refine blk_drew ?_ | refine blk_alloc ?_ _)); refine blk_put (cs := #[.int .i64 0, .int .i64 0, .int .i64 0, .int .i64 0, .int .i64 0, .slice none 0 0]) ?_ 0 _ rfl; (with_reducible repeat (first | refine blk_drewN ?_ _ | refine blk_drew ?_ | refine blk_alloc ?_ _)); exact BK105.out) hb); replace HB := am_ (below_step belowNow hb); (try clear hb); (try clear hb2); (try clear hk); (try clear hi); (try clear ho0); obtain ⟨Ao12, co12, eo12⟩ := Kd.R_slice HO108.out; subst eo12; have hcz13_0 := cz1_ BK105.out 0 rfl; have hcz13_1 := cz1_ BK105.out 1 rfl; have hcz13_2 := cz1_ BK105.out 2 rfl; have hcz13_3 := cz1_ BK105.out 3 rfl; have hcz13_4 := cz1_ BK105.out 4 rfl; have hcz13_5 := cz1_ BK105.out 5 rfl; have hfz13_0 := blk_frozen BK105.out 0; have hfz13_1 := blk_frozen BK105.out 1; have hfz13_2 := blk_frozen BK105.out 2; have hfz13_3 := blk_frozen BK105.out 3; have hfz13_4 := blk_frozen BK105.out 4; have hfz13_5 := blk_frozen BK105.out 5; have hcz14_0 := cz1_ BK104.out 0 rfl; have hcz14_1 := cz1_ BK104.out 1 rfl; have hcz14_2 := cz1_ BK104.out 2 rfl; have hcz14_3 := cz1_ BK104.out 3 rfl; have hcz14_4 := cz1_ BK104.out 4 rfl; have hcz14_5 := cz1_ BK104.out 5 rfl; have hfz14_0 := blk_frozen BK104.out 0; have hfz14_1 := blk_frozen BK104.out 1; have hfz14_2 := blk_frozen BK104.out 2; have hfz14_3 := blk_frozen BK104.out 3; have hfz14_4 := blk_frozen BK104.out 4; have hfz14_5 := blk_frozen BK104.out 5))
 refine bodyPost_ret (results_cell_row rfl _ _ gb104 35 #[.int .i64 a0_0, .int .i64 a0_1, .int .i64 a0_2, .int .i64 a0_3, .int .i64 a0_4, .slice Ao12 t106.length co12] (0, 0) _ rfl (by (with_reducible repeat (first | refine blk_drewN ?_ _ | refine blk_drew ?_ | refine blk_alloc ?_ _)); refine Far.put6_ #[.int .i64 0, .int .i64 0, .int .i64 0, .int .i64 0, .int .i64 0, .slice none 0 0] rfl ?_; (with_reducible repeat (first | refine blk_drewN ?_ _ | refine blk_drew ?_ | refine blk_alloc ?_ _)); refine blk_far ?_ NB104_105.out _; (with_reducible repeat (first | refine blk_drewN ?_ _ | refine blk_drew ?_ | refine blk_alloc ?_ _)); exact BK104.out) Try.underlying35 rfl (by kernel_rfl)) rfl ?_
 exact ⟨_, by first | rfl | (simp [errW_none, errW_some] <;> rfl) | (simp [*, errW_none, errW_some] <;> rfl), by (with_reducible repeat (first | apply Kd.R_alloc | apply Kd.R_drewN | apply Kd.R_drew)); exact Kd.R_mono (Far.rfar6_ (fun _ hk => hk.2) (Kd.R_far (p := ⟨gb105, 5, none⟩) (Kd.R_types (Kd.R_types HO108.out BK105.out (by decide)) BK104.out (by decide)) (fun _ hk => hk.1.2) (.slice Ao12 t106.length co12))) (fun _ hk => trivial), belowNow⟩

/-! ### laws_eqByteA16: function 65 -/
def laws_eqByteA16.f (a0_0 : Int) (a0_1 : Int) (a0_2 : Int) (a0_3 : Int) (a0_4 : Int) (a0_5 : Int) (a0_6 : Int) (a0_7 : Int) (a0_8 : Int) (a0_9 : Int) (a0_10 : Int) (a0_11 : Int) (a0_12 : Int) (a0_13 : Int) (a0_14 : Int) (a0_15 : Int) (a1_0 : Int) (a1_1 : Int) (a1_2 : Int) (a1_3 : Int) (a1_4 : Int) (a1_5 : Int) (a1_6 : Int) (a1_7 : Int) (a1_8 : Int) (a1_9 : Int) (a1_10 : Int) (a1_11 : Int) (a1_12 : Int) (a1_13 : Int) (a1_14 : Int) (a1_15 : Int) : Option Bool := some (decide ([a0_0, a0_1, a0_2, a0_3, a0_4, a0_5, a0_6, a0_7, a0_8, a0_9, a0_10, a0_11, a0_12, a0_13, a0_14, a0_15] = [a1_0, a1_1, a1_2, a1_3, a1_4, a1_5, a1_6, a1_7, a1_8, a1_9, a1_10, a1_11, a1_12, a1_13, a1_14, a1_15]))
set_option maxHeartbeats 4000000 in
set_option maxRecDepth 100000 in
theorem laws_eqByteA16.calls (a0_0 : Int) (a0_1 : Int) (a0_2 : Int) (a0_3 : Int) (a0_4 : Int) (a0_5 : Int) (a0_6 : Int) (a0_7 : Int) (a0_8 : Int) (a0_9 : Int) (a0_10 : Int) (a0_11 : Int) (a0_12 : Int) (a0_13 : Int) (a0_14 : Int) (a0_15 : Int) (a1_0 : Int) (a1_1 : Int) (a1_2 : Int) (a1_3 : Int) (a1_4 : Int) (a1_5 : Int) (a1_6 : Int) (a1_7 : Int) (a1_8 : Int) (a1_9 : Int) (a1_10 : Int) (a1_11 : Int) (a1_12 : Int) (a1_13 : Int) (a1_14 : Int) (a1_15 : Int) (r : Bool) (w : World) (h : laws_eqByteA16.f a0_0 a0_1 a0_2 a0_3 a0_4 a0_5 a0_6 a0_7 a0_8 a0_9 a0_10 a0_11 a0_12 a0_13 a0_14 a0_15 a1_0 a1_1 a1_2 a1_3 a1_4 a1_5 a1_6 a1_7 a1_8 a1_9 a1_10 a1_11 a1_12 a1_13 a1_14 a1_15 = some r) :
  Calls Try.prog 65 #[.agg #[.int .u8 a0_0, .int .u8 a0_1, .int .u8 a0_2, .int .u8 a0_3, .int .u8 a0_4, .int .u8 a0_5, .int .u8 a0_6, .int .u8 a0_7, .int .u8 a0_8, .int .u8 a0_9, .int .u8 a0_10, .int .u8 a0_11, .int .u8 a0_12, .int .u8 a0_13, .int .u8 a0_14, .int .u8 a0_15], .agg #[.int .u8 a1_0, .int .u8 a1_1, .int .u8 a1_2, .int .u8 a1_3, .int .u8 a1_4, .int .u8 a1_5, .int .u8 a1_6, .int .u8 a1_7, .int .u8 a1_8, .int .u8 a1_9, .int .u8 a1_10, .int .u8 a1_11, .int .u8 a1_12, .int .u8 a1_13, .int .u8 a1_14, .int .u8 a1_15]] w fun e w' => e = .returned (.bool r) ∧ Below w.heap.size w w' := by
 have hu := Try.underlying39; have HB := am_ (Below.refl w.heap.size w)
 unfold laws_eqByteA16.f at h
 rw [show (#[.int .u8 a0_0, .int .u8 a0_1, .int .u8 a0_2, .int .u8 a0_3, .int .u8 a0_4, .int .u8 a0_5, .int .u8 a0_6, .int .u8 a0_7, .int .u8 a0_8, .int .u8 a0_9, .int .u8 a0_10, .int .u8 a0_11, .int .u8 a0_12, .int .u8 a0_13, .int .u8 a0_14, .int .u8 a0_15] : Array Value) = Arr.u8s [a0_0, a0_1, a0_2, a0_3, a0_4, a0_5, a0_6, a0_7, a0_8, a0_9, a0_10, a0_11, a0_12, a0_13, a0_14, a0_15] from rfl, show (#[.int .u8 a1_0, .int .u8 a1_1, .int .u8 a1_2, .int .u8 a1_3, .int .u8 a1_4, .int .u8 a1_5, .int .u8 a1_6, .int .u8 a1_7, .int .u8 a1_8, .int .u8 a1_9, .int .u8 a1_10, .int .u8 a1_11, .int .u8 a1_12, .int .u8 a1_13, .int .u8 a1_14, .int .u8 a1_15] : Array Value) = Arr.u8s [a1_0, a1_1, a1_2, a1_3, a1_4, a1_5, a1_6, a1_7, a1_8, a1_9, a1_10, a1_11, a1_12, a1_13, a1_14, a1_15] from rfl]
 generalize hl : [a0_0, a0_1, a0_2, a0_3, a0_4, a0_5, a0_6, a0_7, a0_8, a0_9, a0_10, a0_11, a0_12, a0_13, a0_14, a0_15] = l at h ⊢
 generalize hm : [a1_0, a1_1, a1_2, a1_3, a1_4, a1_5, a1_6, a1_7, a1_8, a1_9, a1_10, a1_11, a1_12, a1_13, a1_14, a1_15] = m at h ⊢
 have hlen : l.length = 16 := by rw [← hl]; rfl
 have hlen2 : m.length = 16 := by rw [← hm]; rfl
 clear hl hm; have HL := am_ hlen; have HM := am_ hlen2; clear hlen hlen2; have H := am_ (Option.some.inj h); clear h
 go_enter Try.func65, Try.ntmps65
 go_wp2_with (first | ((with_reducible refine gate_dst (N := 2) rfl ?_); refine box_event ?hg (N := 2) ?hd (cs := Arr.u8s l) (t := 39) ?hr ?_; (case hd => rfl); (case hg => rfl); (case hr => first | (go_simp; done) | (go_simp; rfl)); intro g1 hg_ w1 hbox_ hb_; have hg_g1 := am_ hg_; have hbox_g1 := am_ hbox_; have hb_g1 := am_ hb_; clear hg_ hbox_ hb_) | ((with_reducible refine gate_dst (N := 3) rfl ?_); refine box_event ?hg (N := 3) ?hd (cs := Arr.u8s m) (t := 39) ?hr ?_; (case hd => rfl); (case hg => rfl); (case hr => first | (go_simp; done) | (go_simp; rfl)); intro g2 hg_ w2 hbox_ hb_; have hg_g2 := am_ hg_; have hbox_g2 := am_ hbox_; have hb_g2 := am_ hb_; clear hg_ hbox_ hb_))
 have S1 := am_ (blk_below hbox_g1.out hb_g2.out); have S2 := hbox_g2; have HB2 := am_ (below_step hb_g1.out hb_g2.out); clear hbox_g1 hbox_g2 hb_g1 hb_g2 hg_g1 hg_g2 HB
 go_loopg [5] 17 (fun g v5 w' => ∃ (x : Int) (i : Nat), v5 = .int .i64 x ∧ Aside0 (x = (i : Int) ∧ i ≤ 16 ∧ g = 17 - i) ∧ Aside0 (l.take i = m.take i) ∧ Aside0 (w'.heap[g1]? = some (.cells (Arr.u8s l) 39 (0, 0))) ∧ Aside0 (w'.heap[g2]? = some (.cells (Arr.u8s m) 39 (0, 0))) ∧ Aside0 (Below w.heap.size w w'))
 case atStart => exact ⟨0, 0, rfl, ⟨⟨rfl, Nat.zero_le _, rfl⟩⟩, ⟨rfl⟩, S1, S2, HB2⟩
 case round =>
  clear S1 S2 HB2; obtain ⟨x, i, rfl, HI, HT, S1, S2, HB⟩ := hrel
  by_cases c : i < 16
  ·have cx : x < 16 := by have := HI.out.1; omega
   have cx0 : 0 ≤ x := by have := HI.out.1; omega
   have hc1 := Arr.cell_of S1.out x cx0 (by have := HL.out; omega)
   have hc2 := Arr.cell_of S2.out x cx0 (by have := HM.out; omega)
   have key : ∀ (q : List Int), q.length = 16 → q.take (i + 1) = q.take i ++ [rd q x] := by
    intro q hq
    have e : x.toNat = i := by have := HI.out.1; omega
    rw [List.take_succ_eq_append_getElem (by omega)]
    congr 2
    simp [rd, e, List.getD_eq_getElem?_getD, List.getElem?_eq_getElem (show i < q.length by omega)]
   have K1 := am_ (key l HL.out); have K2 := am_ (key m HM.out); have cb : decide (x < 16) = true := decide_eq_true cx; replace cx := eq_true cx; replace cx0 := eq_true cx0; clear c key
   by_cases ce : rd l x = rd m x
   case neg =>
    have cq : (rd l x != rd m x) = true := by simpa using ce
    have hr : r = false := by
     rw [← H.out]
     apply decide_eq_false
     intro q
     exact ce (by rw [q])
    subst hr; clear ce
    go_wp2
    repeat (go_quiet (fail); try go_wp2)
    go_ret
    exact ⟨rfl, by exact belowAll⟩
   have cq : (rd l x != rd m x) = false := by simp [ce]
   have HT2 := am_ (show l.take (i + 1) = m.take (i + 1) by rw [K1.out, K2.out, HT.out, ce])
   clear ce
   go_wp2
   repeat (go_quiet (fail); try go_wp2)
   go_roundg (16 - i)
   case measure => have := HI.out; have := of_eq_true cx; omega
   case rel =>
    have hx := HI.out
    have cx' := of_eq_true cx
    exact ⟨wrap64 (x + 1), i + 1, rfl, ⟨⟨by rw [hx.1]; unfold wrap64; omega, by omega, by omega⟩⟩, HT2, ⟨by (with_reducible repeat (first | refine blk_drewN ?_ _ | refine blk_drew ?_)); exact S1.out⟩, ⟨by (with_reducible repeat (first | refine blk_drewN ?_ _ | refine blk_drew ?_)); exact S2.out⟩, ⟨by exact belowAll⟩⟩
  ·have hi : i = 16 := by have := HI.out.2.1; omega
   subst hi; have hx := HI.out.1
   have hr : r = true := by
    rw [← H.out]
    apply decide_eq_true
    have h1 := HT.out
    rwa [List.take_of_length_le (by have := HL.out; omega), List.take_of_length_le (by have := HM.out; omega)] at h1
   subst hr
   have cb : decide (x < 16) = false := decide_eq_false (by omega)
   clear c
   go_wp2
   go_ret
   exact ⟨rfl, by exact belowAll⟩

/-! ### laws_eqPacket: function 46 -/
def laws_eqPacket.f (a0_0 : Int) (a0_1 : Int) (a0_2 : Int) (a0_3 : Int) (a0_4 : Int) (a0_5 : Int) (a0_6 : Int) (a0_7 : Int) (a0_8 : Int) (a0_9 : Int) (a0_10 : Int) (a0_11 : Int) (a0_12 : Int) (a0_13 : Int) (a0_14 : Int) (a0_15 : Int) (a0_16 : Int) (a0_17 : Int) (a1_0 : Int) (a1_1 : Int) (a1_2 : Int) (a1_3 : Int) (a1_4 : Int) (a1_5 : Int) (a1_6 : Int) (a1_7 : Int) (a1_8 : Int) (a1_9 : Int) (a1_10 : Int) (a1_11 : Int) (a1_12 : Int) (a1_13 : Int) (a1_14 : Int) (a1_15 : Int) (a1_16 : Int) (a1_17 : Int) : Option (Bool) := if a0_0 = a1_0 then (if a0_1 = a1_1 then ((laws_eqByteA16.f a0_2 a0_3 a0_4 a0_5 a0_6 a0_7 a0_8 a0_9 a0_10 a0_11 a0_12 a0_13 a0_14 a0_15 a0_16 a0_17 a1_2 a1_3 a1_4 a1_5 a1_6 a1_7 a1_8 a1_9 a1_10 a1_11 a1_12 a1_13 a1_14 a1_15 a1_16 a1_17).bind fun t138 => (if t138 = true then (some true) else (some false))) else (some false)) else (some false)
/-- The cells of a packet: two numbers and its frame's bytes. -/
def laws_eqPacket.pk (a b : Int) (l : List Int) : Array Value := (Value.int .i64 a :: Value.int .i64 b :: l.map (Value.int .u8)).toArray
theorem laws_eqPacket.pk_size (a b : Int) (l : List Int) : (laws_eqPacket.pk a b l).size = l.length + 2 := by simp [laws_eqPacket.pk]
theorem laws_eqPacket.pk_0 {w : World} {g : Nat} {a b : Int} {l : List Int} {t : TypeId} (h : w.heap[g]? = some (.cells (laws_eqPacket.pk a b l) t (0, 0))) : w.cell? ⟨g, 0, none⟩ = some (.int .i64 a) := by
 rw [blk_cell h]
 simp [laws_eqPacket.pk]
theorem laws_eqPacket.pk_1 {w : World} {g : Nat} {a b : Int} {l : List Int} {t : TypeId} (h : w.heap[g]? = some (.cells (laws_eqPacket.pk a b l) t (0, 0))) : w.cell? ⟨g, 1, none⟩ = some (.int .i64 b) := by
 rw [blk_cell h]
 simp [laws_eqPacket.pk]
theorem laws_eqPacket.pk_row {w : World} {g : Nat} {a b : Int} {l : List Int} {t : TypeId} (h : w.heap[g]? = some (.cells (laws_eqPacket.pk a b l) t (0, 0))) (j : Nat) (v : Value) (hj : (l.map (Value.int .u8))[j]? = some v) : w.cell? ((⟨g, 2, none⟩ : Addr).add j) = some v := by
 rw [Addr.add_mid, blk_cell h]
 simp only [laws_eqPacket.pk, List.getElem?_toArray]
 rw [show 2 + j = j + 1 + 1 by omega, List.getElem?_cons_succ, List.getElem?_cons_succ]
 exact hj
theorem laws_eqPacket.list (a0_0 : Int) (a0_1 : Int) (a0_2 : Int) (a0_3 : Int) (a0_4 : Int) (a0_5 : Int) (a0_6 : Int) (a0_7 : Int) (a0_8 : Int) (a0_9 : Int) (a0_10 : Int) (a0_11 : Int) (a0_12 : Int) (a0_13 : Int) (a0_14 : Int) (a0_15 : Int) (a0_16 : Int) (a0_17 : Int) : (#[.int .i64 a0_0, .int .i64 a0_1, .int .u8 a0_2, .int .u8 a0_3, .int .u8 a0_4, .int .u8 a0_5, .int .u8 a0_6, .int .u8 a0_7, .int .u8 a0_8, .int .u8 a0_9, .int .u8 a0_10, .int .u8 a0_11, .int .u8 a0_12, .int .u8 a0_13, .int .u8 a0_14, .int .u8 a0_15, .int .u8 a0_16, .int .u8 a0_17] : Array Value) = laws_eqPacket.pk a0_0 a0_1 [a0_2, a0_3, a0_4, a0_5, a0_6, a0_7, a0_8, a0_9, a0_10, a0_11, a0_12, a0_13, a0_14, a0_15, a0_16, a0_17] := rfl
set_option maxHeartbeats 4000000 in
set_option maxRecDepth 100000 in
theorem laws_eqPacket.calls (a0_0 : Int) (a0_1 : Int) (a0_2 : Int) (a0_3 : Int) (a0_4 : Int) (a0_5 : Int) (a0_6 : Int) (a0_7 : Int) (a0_8 : Int) (a0_9 : Int) (a0_10 : Int) (a0_11 : Int) (a0_12 : Int) (a0_13 : Int) (a0_14 : Int) (a0_15 : Int) (a0_16 : Int) (a0_17 : Int) (a1_0 : Int) (a1_1 : Int) (a1_2 : Int) (a1_3 : Int) (a1_4 : Int) (a1_5 : Int) (a1_6 : Int) (a1_7 : Int) (a1_8 : Int) (a1_9 : Int) (a1_10 : Int) (a1_11 : Int) (a1_12 : Int) (a1_13 : Int) (a1_14 : Int) (a1_15 : Int) (a1_16 : Int) (a1_17 : Int) (r : Bool) (w : World) (h : laws_eqPacket.f a0_0 a0_1 a0_2 a0_3 a0_4 a0_5 a0_6 a0_7 a0_8 a0_9 a0_10 a0_11 a0_12 a0_13 a0_14 a0_15 a0_16 a0_17 a1_0 a1_1 a1_2 a1_3 a1_4 a1_5 a1_6 a1_7 a1_8 a1_9 a1_10 a1_11 a1_12 a1_13 a1_14 a1_15 a1_16 a1_17 = some r) :
  Calls Try.prog 46 #[.agg #[.int .i64 a0_0, .int .i64 a0_1, .int .u8 a0_2, .int .u8 a0_3, .int .u8 a0_4, .int .u8 a0_5, .int .u8 a0_6, .int .u8 a0_7, .int .u8 a0_8, .int .u8 a0_9, .int .u8 a0_10, .int .u8 a0_11, .int .u8 a0_12, .int .u8 a0_13, .int .u8 a0_14, .int .u8 a0_15, .int .u8 a0_16, .int .u8 a0_17], .agg #[.int .i64 a1_0, .int .i64 a1_1, .int .u8 a1_2, .int .u8 a1_3, .int .u8 a1_4, .int .u8 a1_5, .int .u8 a1_6, .int .u8 a1_7, .int .u8 a1_8, .int .u8 a1_9, .int .u8 a1_10, .int .u8 a1_11, .int .u8 a1_12, .int .u8 a1_13, .int .u8 a1_14, .int .u8 a1_15, .int .u8 a1_16, .int .u8 a1_17]] w fun e w' => e = .returned (.bool r) ∧ Below w.heap.size w w' := by
 have hu := Try.underlying44; have hu39 := Try.underlying39; have HB := am_ (Below.refl w.heap.size w)
 unfold laws_eqPacket.f at h
 rw [laws_eqPacket.list a0_0 a0_1 a0_2 a0_3 a0_4 a0_5 a0_6 a0_7 a0_8 a0_9 a0_10 a0_11 a0_12 a0_13 a0_14 a0_15 a0_16 a0_17, laws_eqPacket.list a1_0 a1_1 a1_2 a1_3 a1_4 a1_5 a1_6 a1_7 a1_8 a1_9 a1_10 a1_11 a1_12 a1_13 a1_14 a1_15 a1_16 a1_17]
 have HCALL := am_ (show ∀ (b : Bool) (W : World), laws_eqByteA16.f a0_2 a0_3 a0_4 a0_5 a0_6 a0_7 a0_8 a0_9 a0_10 a0_11 a0_12 a0_13 a0_14 a0_15 a0_16 a0_17 a1_2 a1_3 a1_4 a1_5 a1_6 a1_7 a1_8 a1_9 a1_10 a1_11 a1_12 a1_13 a1_14 a1_15 a1_16 a1_17 = some b → Calls Try.prog 65 #[.agg #[.int .u8 a0_2, .int .u8 a0_3, .int .u8 a0_4, .int .u8 a0_5, .int .u8 a0_6, .int .u8 a0_7, .int .u8 a0_8, .int .u8 a0_9, .int .u8 a0_10, .int .u8 a0_11, .int .u8 a0_12, .int .u8 a0_13, .int .u8 a0_14, .int .u8 a0_15, .int .u8 a0_16, .int .u8 a0_17], .agg #[.int .u8 a1_2, .int .u8 a1_3, .int .u8 a1_4, .int .u8 a1_5, .int .u8 a1_6, .int .u8 a1_7, .int .u8 a1_8, .int .u8 a1_9, .int .u8 a1_10, .int .u8 a1_11, .int .u8 a1_12, .int .u8 a1_13, .int .u8 a1_14, .int .u8 a1_15, .int .u8 a1_16, .int .u8 a1_17]] W (fun e w' => e = .returned (.bool b) ∧ Below W.heap.size W w') from fun b W hb => laws_eqByteA16.calls a0_2 a0_3 a0_4 a0_5 a0_6 a0_7 a0_8 a0_9 a0_10 a0_11 a0_12 a0_13 a0_14 a0_15 a0_16 a0_17 a1_2 a1_3 a1_4 a1_5 a1_6 a1_7 a1_8 a1_9 a1_10 a1_11 a1_12 a1_13 a1_14 a1_15 a1_16 a1_17 b W hb)
 rw [show (#[.int .u8 a0_2, .int .u8 a0_3, .int .u8 a0_4, .int .u8 a0_5, .int .u8 a0_6, .int .u8 a0_7, .int .u8 a0_8, .int .u8 a0_9, .int .u8 a0_10, .int .u8 a0_11, .int .u8 a0_12, .int .u8 a0_13, .int .u8 a0_14, .int .u8 a0_15, .int .u8 a0_16, .int .u8 a0_17] : Array Value) = ([a0_2, a0_3, a0_4, a0_5, a0_6, a0_7, a0_8, a0_9, a0_10, a0_11, a0_12, a0_13, a0_14, a0_15, a0_16, a0_17].map (Value.int .u8)).toArray from rfl, show (#[.int .u8 a1_2, .int .u8 a1_3, .int .u8 a1_4, .int .u8 a1_5, .int .u8 a1_6, .int .u8 a1_7, .int .u8 a1_8, .int .u8 a1_9, .int .u8 a1_10, .int .u8 a1_11, .int .u8 a1_12, .int .u8 a1_13, .int .u8 a1_14, .int .u8 a1_15, .int .u8 a1_16, .int .u8 a1_17] : Array Value) = ([a1_2, a1_3, a1_4, a1_5, a1_6, a1_7, a1_8, a1_9, a1_10, a1_11, a1_12, a1_13, a1_14, a1_15, a1_16, a1_17].map (Value.int .u8)).toArray from rfl] at HCALL
 generalize laws_eqByteA16.f a0_2 a0_3 a0_4 a0_5 a0_6 a0_7 a0_8 a0_9 a0_10 a0_11 a0_12 a0_13 a0_14 a0_15 a0_16 a0_17 a1_2 a1_3 a1_4 a1_5 a1_6 a1_7 a1_8 a1_9 a1_10 a1_11 a1_12 a1_13 a1_14 a1_15 a1_16 a1_17 = ob at h HCALL
 generalize hl : [a0_2, a0_3, a0_4, a0_5, a0_6, a0_7, a0_8, a0_9, a0_10, a0_11, a0_12, a0_13, a0_14, a0_15, a0_16, a0_17] = l at HCALL ⊢
 have hlen : l.length = 16 := by rw [← hl]; rfl
 clear hl; have HL := am_ hlen; clear hlen
 generalize hm : [a1_2, a1_3, a1_4, a1_5, a1_6, a1_7, a1_8, a1_9, a1_10, a1_11, a1_12, a1_13, a1_14, a1_15, a1_16, a1_17] = m at HCALL ⊢
 have hlen : m.length = 16 := by rw [← hm]; rfl
 clear hm; have HM := am_ hlen; clear hlen
 have hlm := am_ (show (l.map (Value.int .u8)).length = 16 by rw [List.length_map]; exact HL.out)
 have hmm := am_ (show (m.map (Value.int .u8)).length = 16 by rw [List.length_map]; exact HM.out)
 have H := am_ h; clear h
 go_enter Try.func46, Try.ntmps46
 go_upto_region 1 with (first | ((with_reducible refine gate_dst (N := 2) rfl ?_); refine box_event ?hg (N := 2) ?hd (cs := (laws_eqPacket.pk a0_0 a0_1 l)) (t := 44) ?hr ?_; (case hd => rfl); (case hg => rfl); (case hr => first | (go_simp; done) | (go_simp; rfl)); intro g1 hg_ wg1 hbox_ hb_; have hg_g1 := am_ hg_; have hbox_g1 := am_ hbox_; have hb_g1 := am_ hb_; clear hg_ hbox_ hb_) | ((with_reducible refine gate_dst (N := 3) rfl ?_); refine box_event ?hg (N := 3) ?hd (cs := (laws_eqPacket.pk a1_0 a1_1 m)) (t := 44) ?hr ?_; (case hd => rfl); (case hg => rfl); (case hr => first | (go_simp; done) | (go_simp; rfl)); intro g2 hg_ wg2 hbox_ hb_; have hg_g2 := am_ hg_; have hbox_g2 := am_ hbox_; have hb_g2 := am_ hb_; clear hg_ hbox_ hb_))
 have S1 := am_ (blk_below hbox_g1.out hb_g2.out); have S2 := hbox_g2; have HB2 := am_ (below_step hb_g1.out hb_g2.out); clear hbox_g1 hbox_g2 hb_g1 hb_g2 hg_g1 hg_g2 HB; have HB := HB2; clear HB2; have hc10 := laws_eqPacket.pk_0 S1.out; have hc11 := laws_eqPacket.pk_1 S1.out; have hc20 := laws_eqPacket.pk_0 S2.out; have hc21 := laws_eqPacket.pk_1 S2.out
 by_cases c0 : a0_0 = a1_0
 case neg =>
  have H' := H.out
  rw [if_neg c0] at H'
  obtain rfl := Option.some.inj H'
  have c0b : (a0_0 != a1_0) = true := by simpa using c0
  clear c0 H H'
  go_wp2
  go_ret
  exact ⟨rfl, HB.out⟩
 have c0b : (a0_0 != a1_0) = false := by simpa using c0
 have H1 := H.out; rw [if_pos c0] at H1; clear c0 H
 by_cases c1 : a0_1 = a1_1
 case neg =>
  rw [if_neg c1] at H1; obtain rfl := Option.some.inj H1
  have c1b : (a0_1 != a1_1) = true := by simpa using c1
  clear c1
  go_wp2
  go_ret
  exact ⟨rfl, HB.out⟩
 have c1b : (a0_1 != a1_1) = false := by simpa using c1
 rw [if_pos c1] at H1; clear c1; obtain ⟨b, hob, H2⟩ := Option.bind_eq_some_iff.mp H1; have HB0 := am_ (HCALL.out b); clear HCALL H1
 have HC := am_ (fun W => HB0.out W hob)
 clear HB0 hob
 have er : b = r := by cases b <;> simpa using H2
 subst er; clear H2
 cases b <;> (
  (go_wp2_with (first | ((with_reducible refine gate_dst (N := 16) rfl ?_); refine Arl.load_list (cl := l.map (Value.int .u8)) rfl rfl rfl rfl (fun j v hj => laws_eqPacket.pk_row S1.out j v hj) hu39 rfl (by rw [hlm.out]; kernel_rfl) ?_) | ((with_reducible refine gate_dst (N := 18) rfl ?_); refine Arl.load_list (cl := m.map (Value.int .u8)) rfl rfl rfl rfl (fun j v hj => laws_eqPacket.pk_row S2.out j v hj) hu39 rfl (by rw [hmm.out]; kernel_rfl) ?_) | (go_at_call 65; (with_reducible refine (HC.out _).mono ?_); rintro e w5 ⟨rfl, hb_⟩; (try refine ⟨_, rfl, ?_⟩); have n3_ := am_ (below_step HB.out hb_); clear HB; have HB := n3_; clear n3_ hb_)))
  go_ret
  exact ⟨rfl, HB.out⟩)

/-! ### laws_eqPacketS: function 16 -/
def laws_eqPacketS.l0 : Nat → List (S44) → List (S44) → Int → Option (Bool)
 | 0, _, _, _ => none
 | k + 1, x0, x1, x5 => if x5 < (x0.length : Int) then (if 0 ≤ x5 then (if x5 < (x1.length : Int) then ((laws_eqPacket.f ((rd_T44 x0 x5).f0) ((rd_T44 x0 x5).f1) ((rd_T44 x0 x5).f2.f0) ((rd_T44 x0 x5).f2.f1) ((rd_T44 x0 x5).f2.f2) ((rd_T44 x0 x5).f2.f3) ((rd_T44 x0 x5).f2.f4) ((rd_T44 x0 x5).f2.f5) ((rd_T44 x0 x5).f2.f6) ((rd_T44 x0 x5).f2.f7) ((rd_T44 x0 x5).f2.f8) ((rd_T44 x0 x5).f2.f9) ((rd_T44 x0 x5).f2.f10) ((rd_T44 x0 x5).f2.f11) ((rd_T44 x0 x5).f2.f12) ((rd_T44 x0 x5).f2.f13) ((rd_T44 x0 x5).f2.f14) ((rd_T44 x0 x5).f2.f15) ((rd_T44 x1 x5).f0) ((rd_T44 x1 x5).f1) ((rd_T44 x1 x5).f2.f0) ((rd_T44 x1 x5).f2.f1) ((rd_T44 x1 x5).f2.f2) ((rd_T44 x1 x5).f2.f3) ((rd_T44 x1 x5).f2.f4) ((rd_T44 x1 x5).f2.f5) ((rd_T44 x1 x5).f2.f6) ((rd_T44 x1 x5).f2.f7) ((rd_T44 x1 x5).f2.f8) ((rd_T44 x1 x5).f2.f9) ((rd_T44 x1 x5).f2.f10) ((rd_T44 x1 x5).f2.f11) ((rd_T44 x1 x5).f2.f12) ((rd_T44 x1 x5).f2.f13) ((rd_T44 x1 x5).f2.f14) ((rd_T44 x1 x5).f2.f15)).bind fun t187 => (if t187 = true then (laws_eqPacketS.l0 k x0 x1 (wrap64 (x5 + 1))) else (some false))) else (none)) else (none)) else (some true)
def laws_eqPacketS.f (k : Nat) (l0 : List (S44)) (l1 : List (S44)) : Option (Bool) := if (l0.length : Int) = (l1.length : Int) then (laws_eqPacketS.l0 k l0 l1 0) else (some false)
theorem laws_eqPacketS.mono_l : ∀ k, (∀ y0 y1 y2, LeO (laws_eqPacketS.l0 k y0 y1 y2) (laws_eqPacketS.l0 (k + 1) y0 y1 y2))
 | 0 => fun _ _ _ r h => by simp [laws_eqPacketS.l0] at h
 | k + 1 => by
  have ih0 := laws_eqPacketS.mono_l k
  intro y0 y1 y2
  unfold laws_eqPacketS.l0
  repeat' first
   | (with_reducible exact ih0 _ _ _)
   | (with_reducible exact LeO.refl _)
   | (with_reducible exact LeO.none _)
   | (with_reducible refine LeO.ite ?_ ?_)
   | (with_reducible refine LeO.bind ?_ (fun _ => ?_))
   | exact ih0 _ _ _
theorem laws_eqPacketS.mono : ∀ a0 a1 k, LeO (laws_eqPacketS.f k a0 a1) (laws_eqPacketS.f (k + 1) a0 a1) := by
 intro a0 a1 k
 have ih0 := laws_eqPacketS.mono_l k
 unfold laws_eqPacketS.f
 repeat' first
  | (with_reducible exact ih0 _ _ _)
  | (with_reducible exact LeO.refl _)
  | (with_reducible refine LeO.ite ?_ ?_)
  | exact ih0 _ _ _
set_option maxHeartbeats 8000000 in
set_option maxRecDepth 100000 in
theorem laws_eqPacketS.calls (k : Nat) (A0 : Option Addr) (c0 : Nat) (l0 : List (S44)) (A1 : Option Addr) (c1 : Nat) (l1 : List (S44)) (r : Bool) (w : World) (hr0 : Kd.C k44 w A0 l0.length l0) (hc0 : l0.length ≤ c0) (hr1 : Kd.C k44 w A1 l1.length l1) (hc1 : l1.length ≤ c1) (h : laws_eqPacketS.f k l0 l1 = some r) :
  Calls Try.prog 16 #[.slice A0 l0.length c0, .slice A1 l1.length c1] w fun e w' => e = .returned (.bool r) ∧ Below w.heap.size w w' := by
 have HR0 := am_ hr0; have HR1 := am_ hr1; clear hr0 hc0 hr1 hc1; have HB := am_ (Below.refl w.heap.size w); have H := h; rw [laws_eqPacketS.f] at H; clear h
 by_cases c2 : (l0.length : Int) = (l1.length : Int)
 case neg =>
  rw [if_neg c2] at H; obtain rfl := Option.some.inj H
  have c2b : ((l0.length : Int) != (l1.length : Int)) = true := by simpa using c2
  have c2c : (l0.length == l1.length) = false := by simp; omega
  clear c2 H
  go_enter Try.func16, Try.ntmps16
  go_wp2
  go_ret
  exact ⟨rfl, HB.out⟩
 rw [if_pos c2] at H
 have c2b : ((l0.length : Int) != (l1.length : Int)) = false := by simpa using c2
 have c2c : (l0.length == l1.length) = true := by simp; omega
 clear c2
 have H' := am_ H
 clear H
 go_enter Try.func16, Try.ntmps16
 go_wp2
 go_loopg [5] k (fun kq v5 w' => ∃ (x5_1 : Int), v5 = .int .i64 x5_1 ∧ Aside0 (laws_eqPacketS.l0 kq l0 l1 x5_1 = some r) ∧ Aside0 (kq ≤ k) ∧ Aside0 (Below w.heap.size w w'))
 case atStart => exact ⟨0, rfl, H', ⟨Nat.le_refl _⟩, HB⟩
 case round =>
  clear H' HB c2b c2c
  obtain ⟨x5_1, rfl, HA, HK1, HB⟩ := hrel
  cases gk with
  | zero => exact absurd HA.out (by simp [laws_eqPacketS.l0])
  | succ k1 =>
   have H := HA.out; clear HA; simp only [laws_eqPacketS.l0] at H
   by_cases c6 : x5_1 < (l0.length : Int)
   case neg =>
    rw [if_neg c6] at H; have c6b0 : decide (x5_1 < (l0.length : Int)) = false := decide_eq_false c6; clear c6; obtain rfl := Option.some.inj H; clear H
    go_wp2
    go_ret
    exact ⟨rfl, HB.out⟩

   rw [if_pos c6] at H; have c6b0 : decide (x5_1 < (l0.length : Int)) = true := decide_eq_true c6
   by_cases c7 : 0 ≤ x5_1
   case neg => rw [if_neg c7] at H; cases H
   rw [if_pos c7] at H
   by_cases c9 : x5_1 < (l1.length : Int)
   case neg => rw [if_neg c9] at H; cases H
   rw [if_pos c9] at H; obtain ⟨b, A80, H⟩ := Option.bind_eq_some_iff.mp H; obtain ⟨ad0, cl, e142, hcn, hK, hcc⟩ := Kd.C_get HR0.out z44 x5_1 c7 c6
   cases e142
   have HCN := am_ (show cl.length = 18 from hcn)
   have HCC := am_ (show ∀ (j : Nat) (v : Value), cl[j]? = some v → w.cell? ((ad0.add (x5_1.toNat * 18)).add j) = some v from fun j v hj => by rw [Addr.add_add]; exact hcc j v hj)
   have HCL := am_ (show cl = [.int .i64 ((rd_T44 l0 x5_1).f0), .int .i64 ((rd_T44 l0 x5_1).f1), .int .u8 ((rd_T44 l0 x5_1).f2.f0), .int .u8 ((rd_T44 l0 x5_1).f2.f1), .int .u8 ((rd_T44 l0 x5_1).f2.f2), .int .u8 ((rd_T44 l0 x5_1).f2.f3), .int .u8 ((rd_T44 l0 x5_1).f2.f4), .int .u8 ((rd_T44 l0 x5_1).f2.f5), .int .u8 ((rd_T44 l0 x5_1).f2.f6), .int .u8 ((rd_T44 l0 x5_1).f2.f7), .int .u8 ((rd_T44 l0 x5_1).f2.f8), .int .u8 ((rd_T44 l0 x5_1).f2.f9), .int .u8 ((rd_T44 l0 x5_1).f2.f10), .int .u8 ((rd_T44 l0 x5_1).f2.f11), .int .u8 ((rd_T44 l0 x5_1).f2.f12), .int .u8 ((rd_T44 l0 x5_1).f2.f13), .int .u8 ((rd_T44 l0 x5_1).f2.f14), .int .u8 ((rd_T44 l0 x5_1).f2.f15)] from k44_open hK); clear hcn hcc hK; obtain ⟨ad1, dl, e143, hdn, hK, hdc⟩ := Kd.C_get HR1.out z44 x5_1 c7 c9
   cases e143
   have HDN := am_ (show dl.length = 18 from hdn)
   have HDC := am_ (show ∀ (j : Nat) (v : Value), dl[j]? = some v → w.cell? ((ad1.add (x5_1.toNat * 18)).add j) = some v from fun j v hj => by rw [Addr.add_add]; exact hdc j v hj)
   have HDL := am_ (show dl = [.int .i64 ((rd_T44 l1 x5_1).f0), .int .i64 ((rd_T44 l1 x5_1).f1), .int .u8 ((rd_T44 l1 x5_1).f2.f0), .int .u8 ((rd_T44 l1 x5_1).f2.f1), .int .u8 ((rd_T44 l1 x5_1).f2.f2), .int .u8 ((rd_T44 l1 x5_1).f2.f3), .int .u8 ((rd_T44 l1 x5_1).f2.f4), .int .u8 ((rd_T44 l1 x5_1).f2.f5), .int .u8 ((rd_T44 l1 x5_1).f2.f6), .int .u8 ((rd_T44 l1 x5_1).f2.f7), .int .u8 ((rd_T44 l1 x5_1).f2.f8), .int .u8 ((rd_T44 l1 x5_1).f2.f9), .int .u8 ((rd_T44 l1 x5_1).f2.f10), .int .u8 ((rd_T44 l1 x5_1).f2.f11), .int .u8 ((rd_T44 l1 x5_1).f2.f12), .int .u8 ((rd_T44 l1 x5_1).f2.f13), .int .u8 ((rd_T44 l1 x5_1).f2.f14), .int .u8 ((rd_T44 l1 x5_1).f2.f15)] from k44_open hK); clear hdn hdc hK
   have HCALL := am_ (show ∀ W : World, Calls Try.prog 46 #[.agg cl.toArray, .agg dl.toArray] W (fun e w' => e = .returned (.bool b) ∧ Below W.heap.size W w') from fun W => by rw [HCL.out, HDL.out]; exact laws_eqPacket.calls _ _ _ _ _ _ _ _ _ _ _ _ _ _ _ _ _ _ _ _ _ _ _ _ _ _ _ _ _ _ _ _ _ _ _ _ _ W A80)
   clear A80; have p6 := eq_true c6; have p7 := eq_true c7; have p9 := eq_true c9; clear c6 c7 c9; have HA := am_ H; clear H; have HU := Try.underlying44
   go_upto_region 6 with (fail)
   go_cut [26] (fun v26 wd => v26 = .bool (!b) ∧ Aside0 (Below wr.heap.size wr wd))
   case first =>
    refine wp_region_held_drew (S := fun w' => Below wr.heap.size wr w') rfl (below_drew1 (Below.refl _ _)) (fun HS => ?_)
    refine Arl.take (i := 0) (v := .slice (some ad0) l0.length c0) rfl (by kernel_rfl) (by kernel_rfl) (by kernel_rfl) (fun _ _ _ h => h) (by rfl) (fun w h => by go_simp) HS ?_
    simp only [Act.put, List.setIfInBounds_toArray, List.set_cons_zero, List.set_cons_succ]
    refine Arl.take (i := 1) (v := .int .i64 x5_1) rfl (by kernel_rfl) (by kernel_rfl) (by kernel_rfl) (fun _ _ _ h => h) (by rfl) (fun w h => by go_simp) HS ?_
    simp only [Act.put, List.setIfInBounds_toArray, List.set_cons_zero, List.set_cons_succ]
    refine Arl.take (i := 2) (v := .pointer (some (ad0.add (x5_1.toNat * 18)))) rfl (by kernel_rfl) (by kernel_rfl) (by kernel_rfl) (fun _ _ _ h => h) (by rfl) (fun w h => by go_simp) HS ?_
    simp only [Act.put, List.setIfInBounds_toArray, List.set_cons_zero, List.set_cons_succ]
    refine Arl.take (i := 3) (v := .agg cl.toArray) rfl (by kernel_rfl) (by kernel_rfl) (by kernel_rfl) (fun _ _ _ h => h) (by rfl) (Arl.loads rfl rfl (fun W0 hW j v hj => (show Below w.heap.size w W0 from below_step HB.out hW).cell (World.block_lt_of_cell? w _ (HCC.out j v hj)) |>.trans (HCC.out j v hj)) HU rfl (by rw [HCN.out]; kernel_rfl)) HS ?_
    simp only [Act.put, List.setIfInBounds_toArray, List.set_cons_zero, List.set_cons_succ]
    refine Arl.take (i := 4) (v := .slice (some ad1) l1.length c1) rfl (by kernel_rfl) (by kernel_rfl) (by kernel_rfl) (fun _ _ _ h => h) (by rfl) (fun w h => by go_simp) HS ?_
    simp only [Act.put, List.setIfInBounds_toArray, List.set_cons_zero, List.set_cons_succ]
    refine Arl.take (i := 5) (v := .int .i64 x5_1) rfl (by kernel_rfl) (by kernel_rfl) (by kernel_rfl) (fun _ _ _ h => h) (by rfl) (fun w h => by go_simp) HS ?_
    simp only [Act.put, List.setIfInBounds_toArray, List.set_cons_zero, List.set_cons_succ]
    refine Arl.take (i := 6) (v := .pointer (some (ad1.add (x5_1.toNat * 18)))) rfl (by kernel_rfl) (by kernel_rfl) (by kernel_rfl) (fun _ _ _ h => h) (by rfl) (fun w h => by go_simp) HS ?_
    simp only [Act.put, List.setIfInBounds_toArray, List.set_cons_zero, List.set_cons_succ]
    refine Arl.take (i := 7) (v := .agg dl.toArray) rfl (by kernel_rfl) (by kernel_rfl) (by kernel_rfl) (fun _ _ _ h => h) (by rfl) (Arl.loads rfl rfl (fun W0 hW j v hj => (show Below w.heap.size w W0 from below_step HB.out hW).cell (World.block_lt_of_cell? w _ (HDC.out j v hj)) |>.trans (HDC.out j v hj)) HU rfl (by rw [HDN.out]; kernel_rfl)) HS ?_
    simp only [Act.put, List.setIfInBounds_toArray, List.set_cons_zero, List.set_cons_succ]
    refine wpAnyH_ready (rs := [8]) (by kernel_rfl) (by simp) ?_
    refine AllReadyH.cons (o := _) (Arl.nth_some rfl) (fun K hK => ?_) AllReadyH.nil
    go_simp
    go_at_call 46
    with_reducible refine (HCALL.out _).mono ?_
    rintro e w' ⟨rfl, hb⟩
    (try refine ⟨_, rfl, ?_⟩)
    refine hK.out _ _ (below_step HS hb) (fun HS => ?_)
    refine Arl.take (i := 9) (v := .bool (!b)) rfl (by kernel_rfl) (by kernel_rfl) (by kernel_rfl) (fun _ _ _ h => h) (by rfl) (fun w h => by go_simp) HS ?_
    simp only [Act.put, List.setIfInBounds_toArray, List.set_cons_zero, List.set_cons_succ]
    refine wpAnyH_done (by kernel_rfl) ?_ _
    (try go_wp2)
    go_meet
    exact ⟨rfl, ⟨HS⟩⟩
   case rest =>
    obtain ⟨rfl, hbd⟩ := hcut
    cases b with
    | true =>
     have H' := HA.out
     rw [if_pos rfl] at H'
     go_wp2
     go_roundg k1
     case measure => have := HK1.out; omega
     case rel => exact ⟨(wrap64 (x5_1 + 1)), rfl, ⟨H'⟩, ⟨by have := HK1.out; omega⟩, ⟨below_step HB.out hbd.out⟩⟩
    | false =>
     have H' := HA.out
     rw [if_neg (by decide)] at H'
     obtain rfl := Option.some.inj H'
     go_wp2
     go_ret
     exact ⟨rfl, below_step HB.out hbd.out⟩
/-! ### laws_eqPlayer: function 21 -/
def laws_eqPlayer.f (k : Nat) (a0_0 : Int) (a0_1 : Int) (a0_2 : Int) (a0_3 : Int) (a0_4 : Int) (l0_5 : List (S44)) (a1_0 : Int) (a1_1 : Int) (a1_2 : Int) (a1_3 : Int) (a1_4 : Int) (l1_5 : List (S44)) : Option (Bool) := if a0_0 = a1_0 then (if a0_1 = a1_1 then (if a0_2 = a1_2 then (if a0_3 = a1_3 then (if a0_4 = a1_4 then ((laws_eqPacketS.f k l0_5 l1_5).bind fun t111 => (if t111 = true then (some true) else (some false))) else (some false)) else (some false)) else (some false)) else (some false)) else (some false)
theorem laws_eqPlayer.mono : ∀ a0 a1 a2 a3 a4 a5 a6 a7 a8 a9 a10 a11 k, LeO (laws_eqPlayer.f k a0 a1 a2 a3 a4 a5 a6 a7 a8 a9 a10 a11) (laws_eqPlayer.f (k + 1) a0 a1 a2 a3 a4 a5 a6 a7 a8 a9 a10 a11) := by
 intro a0 a1 a2 a3 a4 a5 a6 a7 a8 a9 a10 a11 k
 unfold laws_eqPlayer.f
 repeat' first
   | (with_reducible exact laws_eqPacketS.mono _ _ _)
   | (with_reducible exact LeO.refl _)
   | (with_reducible exact LeO.none _)
   | (with_reducible refine LeO.ite ?_ ?_)
   | (with_reducible refine LeO.bind ?_ (fun _ => ?_))
   | exact laws_eqPacketS.mono _ _ _
   | exact LeO.none _
   | refine LeO.ite ?_ ?_
   | refine LeO.bind ?_ (fun _ => ?_)
set_option maxHeartbeats 8000000 in
set_option maxRecDepth 100000 in
theorem laws_eqPlayer.calls (k : Nat) (a0_0 : Int) (a0_1 : Int) (a0_2 : Int) (a0_3 : Int) (a0_4 : Int) (A0_5 : Option Addr) (c0_5 : Nat) (l0_5 : List (S44)) (a1_0 : Int) (a1_1 : Int) (a1_2 : Int) (a1_3 : Int) (a1_4 : Int) (A1_5 : Option Addr) (c1_5 : Nat) (l1_5 : List (S44)) (r : Bool) (w : World) (hr0_5 : Kd.C k44 w A0_5 l0_5.length l0_5) (hc0_5 : l0_5.length ≤ c0_5) (hr1_5 : Kd.C k44 w A1_5 l1_5.length l1_5) (hc1_5 : l1_5.length ≤ c1_5) (h : laws_eqPlayer.f k a0_0 a0_1 a0_2 a0_3 a0_4 l0_5 a1_0 a1_1 a1_2 a1_3 a1_4 l1_5 = some r) :
  Calls Try.prog 21 #[.agg #[.int .i64 a0_0, .int .i64 a0_1, .int .i64 a0_2, .int .i64 a0_3, .int .i64 a0_4, .slice A0_5 l0_5.length c0_5], .agg #[.int .i64 a1_0, .int .i64 a1_1, .int .i64 a1_2, .int .i64 a1_3, .int .i64 a1_4, .slice A1_5 l1_5.length c1_5]] w fun e w' => e = .returned (.bool r) ∧ Below w.heap.size w w' := by
 have hu35 := Try.underlying35; have HR0_5 := am_ hr0_5; have HC0_5 := am_ hc0_5; clear hr0_5 hc0_5; have HR1_5 := am_ hr1_5; have HC1_5 := am_ hc1_5; clear hr1_5 hc1_5; have HB := am_ (Below.refl w.heap.size w)
 have H : (if a0_0 = a1_0 then (if a0_1 = a1_1 then (if a0_2 = a1_2 then (if a0_3 = a1_3 then (if a0_4 = a1_4 then ((laws_eqPacketS.f k l0_5 l1_5).bind fun t111 => (if t111 = true then (some true) else (some false))) else (some false)) else (some false)) else (some false)) else (some false)) else (some false)) = some r := h
 clear h
 by_cases c3 : a0_0 = a1_0
 case neg =>
  rw [if_neg c3] at H; have c3b0 : (a0_0 == a1_0) = false := beq_eq_false_iff_ne.mpr c3; have c3b1 : (a0_0 != a1_0) = true := bne_iff_ne.mpr c3; obtain rfl := Option.some.inj H
  go_enter Try.func21, Try.ntmps21
  go_wp2_with (first | ((with_reducible refine gate_dst (N := 2) rfl ?_); refine box_event ?hg (N := 2) ?hd (cs := #[.int .i64 a0_0, .int .i64 a0_1, .int .i64 a0_2, .int .i64 a0_3, .int .i64 a0_4, .slice A0_5 l0_5.length c0_5]) (t := 35) ?hr ?_; (case hd => rfl); (case hg => rfl); (case hr => first | (go_simp; done) | (go_simp; rfl)); intro gb109 hg w42 hbox hb; have n0_ := am_ (below_step belowNow hb); have n1_ := am_ (hbox); have n2_ := am_ ((by rw [hg]; exact (below_size belowNow) : w.heap.size ≤ gb109)); have n3_ := n2_; clear HB; have HB := n0_; have BK109 := n1_; have GW109 := n2_; have GE109 := n3_; clear n0_ n1_ n2_ n3_; clear hb hbox hg) | ((with_reducible refine gate_dst (N := 3) rfl ?_); refine box_event ?hg (N := 3) ?hd (cs := #[.int .i64 a1_0, .int .i64 a1_1, .int .i64 a1_2, .int .i64 a1_3, .int .i64 a1_4, .slice A1_5 l1_5.length c1_5]) (t := 35) ?hr ?_; (case hd => rfl); (case hg => rfl); (case hr => first | (go_simp; done) | (go_simp; rfl)); intro gb110 hg w43 hbox hb; have n0_ := am_ (blkStep (g := gb109) hb); have n1_ := am_ (below_step belowNow hb); have n2_ := am_ (hbox); have n3_ := am_ ((by rw [hg]; exact (below_size belowNow) : w.heap.size ≤ gb110)); have n4_ := n3_; have n5_ := am_ ((by rw [hg]; exact Nat.ne_of_lt (blkLt (g := gb109)) : gb109 ≠ gb110)); have n6_ := am_ ((by rw [hg]; exact Nat.ne_of_gt (blkLt (g := gb109)) : gb110 ≠ gb109)); clear BK109; clear HB; have BK109 := n0_; have HB := n1_; have BK110 := n2_; have GW110 := n3_; have GE110 := n4_; have NB109_110 := n5_; have NB110_109 := n6_; clear n0_ n1_ n2_ n3_ n4_ n5_ n6_; clear hb hbox hg; have ⟨hnb44, hnc44⟩ := nn1_ NB109_110.out; have hcz45_0 := cz1_ BK109.out 0 rfl; have hcz45_1 := cz1_ BK109.out 1 rfl; have hcz45_2 := cz1_ BK109.out 2 rfl; have hcz45_3 := cz1_ BK109.out 3 rfl; have hcz45_4 := cz1_ BK109.out 4 rfl; have hcz45_5 := cz1_ BK109.out 5 rfl; have hfz45_0 := blk_frozen BK109.out 0; have hfz45_1 := blk_frozen BK109.out 1; have hfz45_2 := blk_frozen BK109.out 2; have hfz45_3 := blk_frozen BK109.out 3; have hfz45_4 := blk_frozen BK109.out 4; have hfz45_5 := blk_frozen BK109.out 5; have hcz46_0 := cz1_ BK110.out 0 rfl; have hcz46_1 := cz1_ BK110.out 1 rfl; have hcz46_2 := cz1_ BK110.out 2 rfl; have hcz46_3 := cz1_ BK110.out 3 rfl; have hcz46_4 := cz1_ BK110.out 4 rfl; have hcz46_5 := cz1_ BK110.out 5 rfl; have hfz46_0 := blk_frozen BK110.out 0; have hfz46_1 := blk_frozen BK110.out 1; have hfz46_2 := blk_frozen BK110.out 2; have hfz46_3 := blk_frozen BK110.out 3; have hfz46_4 := blk_frozen BK110.out 4; have hfz46_5 := blk_frozen BK110.out 5))
  go_ret
  exact ⟨by first | rfl | (simp [errW_none, errW_some] <;> rfl) | (simp [*, errW_none, errW_some] <;> rfl), belowNow⟩

 rw [if_pos c3] at H; have c3b0 : (a0_0 == a1_0) = true := beq_iff_eq.mpr c3; have c3b1 : (a0_0 != a1_0) = false := bne_eq_false_iff_eq.mpr c3; clear c3
 by_cases c4 : a0_1 = a1_1
 case neg =>
  rw [if_neg c4] at H; have c4b0 : (a0_1 == a1_1) = false := beq_eq_false_iff_ne.mpr c4; have c4b1 : (a0_1 != a1_1) = true := bne_iff_ne.mpr c4; obtain rfl := Option.some.inj H
  go_enter Try.func21, Try.ntmps21
  go_wp2_with (first | ((with_reducible refine gate_dst (N := 2) rfl ?_); refine box_event ?hg (N := 2) ?hd (cs := #[.int .i64 a0_0, .int .i64 a0_1, .int .i64 a0_2, .int .i64 a0_3, .int .i64 a0_4, .slice A0_5 l0_5.length c0_5]) (t := 35) ?hr ?_; (case hd => rfl); (case hg => rfl); (case hr => first | (go_simp; done) | (go_simp; rfl)); intro gb109 hg w37 hbox hb; have n0_ := am_ (below_step belowNow hb); have n1_ := am_ (hbox); have n2_ := am_ ((by rw [hg]; exact (below_size belowNow) : w.heap.size ≤ gb109)); have n3_ := n2_; clear HB; have HB := n0_; have BK109 := n1_; have GW109 := n2_; have GE109 := n3_; clear n0_ n1_ n2_ n3_; clear hb hbox hg) | ((with_reducible refine gate_dst (N := 3) rfl ?_); refine box_event ?hg (N := 3) ?hd (cs := #[.int .i64 a1_0, .int .i64 a1_1, .int .i64 a1_2, .int .i64 a1_3, .int .i64 a1_4, .slice A1_5 l1_5.length c1_5]) (t := 35) ?hr ?_; (case hd => rfl); (case hg => rfl); (case hr => first | (go_simp; done) | (go_simp; rfl)); intro gb110 hg w38 hbox hb; have n0_ := am_ (blkStep (g := gb109) hb); have n1_ := am_ (below_step belowNow hb); have n2_ := am_ (hbox); have n3_ := am_ ((by rw [hg]; exact (below_size belowNow) : w.heap.size ≤ gb110)); have n4_ := n3_; have n5_ := am_ ((by rw [hg]; exact Nat.ne_of_lt (blkLt (g := gb109)) : gb109 ≠ gb110)); have n6_ := am_ ((by rw [hg]; exact Nat.ne_of_gt (blkLt (g := gb109)) : gb110 ≠ gb109)); clear BK109; clear HB; have BK109 := n0_; have HB := n1_; have BK110 := n2_; have GW110 := n3_; have GE110 := n4_; have NB109_110 := n5_; have NB110_109 := n6_; clear n0_ n1_ n2_ n3_ n4_ n5_ n6_; clear hb hbox hg; have ⟨hnb39, hnc39⟩ := nn1_ NB109_110.out; have hcz40_0 := cz1_ BK109.out 0 rfl; have hcz40_1 := cz1_ BK109.out 1 rfl; have hcz40_2 := cz1_ BK109.out 2 rfl; have hcz40_3 := cz1_ BK109.out 3 rfl; have hcz40_4 := cz1_ BK109.out 4 rfl; have hcz40_5 := cz1_ BK109.out 5 rfl; have hfz40_0 := blk_frozen BK109.out 0; have hfz40_1 := blk_frozen BK109.out 1; have hfz40_2 := blk_frozen BK109.out 2; have hfz40_3 := blk_frozen BK109.out 3; have hfz40_4 := blk_frozen BK109.out 4; have hfz40_5 := blk_frozen BK109.out 5; have hcz41_0 := cz1_ BK110.out 0 rfl; have hcz41_1 := cz1_ BK110.out 1 rfl; have hcz41_2 := cz1_ BK110.out 2 rfl; have hcz41_3 := cz1_ BK110.out 3 rfl; have hcz41_4 := cz1_ BK110.out 4 rfl; have hcz41_5 := cz1_ BK110.out 5 rfl; have hfz41_0 := blk_frozen BK110.out 0; have hfz41_1 := blk_frozen BK110.out 1; have hfz41_2 := blk_frozen BK110.out 2; have hfz41_3 := blk_frozen BK110.out 3; have hfz41_4 := blk_frozen BK110.out 4; have hfz41_5 := blk_frozen BK110.out 5))
  go_ret
  exact ⟨by first | rfl | (simp [errW_none, errW_some] <;> rfl) | (simp [*, errW_none, errW_some] <;> rfl), belowNow⟩
 rw [if_pos c4] at H; have c4b0 : (a0_1 == a1_1) = true := beq_iff_eq.mpr c4; have c4b1 : (a0_1 != a1_1) = false := bne_eq_false_iff_eq.mpr c4; clear c4
 by_cases c5 : a0_2 = a1_2
 case neg =>
  rw [if_neg c5] at H; have c5b0 : (a0_2 == a1_2) = false := beq_eq_false_iff_ne.mpr c5; have c5b1 : (a0_2 != a1_2) = true := bne_iff_ne.mpr c5; obtain rfl := Option.some.inj H
  go_enter Try.func21, Try.ntmps21
  go_wp2_with (first | ((with_reducible refine gate_dst (N := 2) rfl ?_); refine box_event ?hg (N := 2) ?hd (cs := #[.int .i64 a0_0, .int .i64 a0_1, .int .i64 a0_2, .int .i64 a0_3, .int .i64 a0_4, .slice A0_5 l0_5.length c0_5]) (t := 35) ?hr ?_; (case hd => rfl); (case hg => rfl); (case hr => first | (go_simp; done) | (go_simp; rfl)); intro gb109 hg w32 hbox hb; have n0_ := am_ (below_step belowNow hb); have n1_ := am_ (hbox); have n2_ := am_ ((by rw [hg]; exact (below_size belowNow) : w.heap.size ≤ gb109)); have n3_ := n2_; clear HB; have HB := n0_; have BK109 := n1_; have GW109 := n2_; have GE109 := n3_; clear n0_ n1_ n2_ n3_; clear hb hbox hg) | ((with_reducible refine gate_dst (N := 3) rfl ?_); refine box_event ?hg (N := 3) ?hd (cs := #[.int .i64 a1_0, .int .i64 a1_1, .int .i64 a1_2, .int .i64 a1_3, .int .i64 a1_4, .slice A1_5 l1_5.length c1_5]) (t := 35) ?hr ?_; (case hd => rfl); (case hg => rfl); (case hr => first | (go_simp; done) | (go_simp; rfl)); intro gb110 hg w33 hbox hb; have n0_ := am_ (blkStep (g := gb109) hb); have n1_ := am_ (below_step belowNow hb); have n2_ := am_ (hbox); have n3_ := am_ ((by rw [hg]; exact (below_size belowNow) : w.heap.size ≤ gb110)); have n4_ := n3_; have n5_ := am_ ((by rw [hg]; exact Nat.ne_of_lt (blkLt (g := gb109)) : gb109 ≠ gb110)); have n6_ := am_ ((by rw [hg]; exact Nat.ne_of_gt (blkLt (g := gb109)) : gb110 ≠ gb109)); clear BK109; clear HB; have BK109 := n0_; have HB := n1_; have BK110 := n2_; have GW110 := n3_; have GE110 := n4_; have NB109_110 := n5_; have NB110_109 := n6_; clear n0_ n1_ n2_ n3_ n4_ n5_ n6_; clear hb hbox hg; have ⟨hnb34, hnc34⟩ := nn1_ NB109_110.out; have hcz35_0 := cz1_ BK109.out 0 rfl; have hcz35_1 := cz1_ BK109.out 1 rfl; have hcz35_2 := cz1_ BK109.out 2 rfl; have hcz35_3 := cz1_ BK109.out 3 rfl; have hcz35_4 := cz1_ BK109.out 4 rfl; have hcz35_5 := cz1_ BK109.out 5 rfl; have hfz35_0 := blk_frozen BK109.out 0; have hfz35_1 := blk_frozen BK109.out 1; have hfz35_2 := blk_frozen BK109.out 2; have hfz35_3 := blk_frozen BK109.out 3; have hfz35_4 := blk_frozen BK109.out 4; have hfz35_5 := blk_frozen BK109.out 5; have hcz36_0 := cz1_ BK110.out 0 rfl; have hcz36_1 := cz1_ BK110.out 1 rfl; have hcz36_2 := cz1_ BK110.out 2 rfl; have hcz36_3 := cz1_ BK110.out 3 rfl; have hcz36_4 := cz1_ BK110.out 4 rfl; have hcz36_5 := cz1_ BK110.out 5 rfl; have hfz36_0 := blk_frozen BK110.out 0; have hfz36_1 := blk_frozen BK110.out 1; have hfz36_2 := blk_frozen BK110.out 2; have hfz36_3 := blk_frozen BK110.out 3; have hfz36_4 := blk_frozen BK110.out 4; have hfz36_5 := blk_frozen BK110.out 5))
  go_ret
  exact ⟨by first | rfl | (simp [errW_none, errW_some] <;> rfl) | (simp [*, errW_none, errW_some] <;> rfl), belowNow⟩
 rw [if_pos c5] at H; have c5b0 : (a0_2 == a1_2) = true := beq_iff_eq.mpr c5; have c5b1 : (a0_2 != a1_2) = false := bne_eq_false_iff_eq.mpr c5; clear c5
 by_cases c6 : a0_3 = a1_3
 case neg =>
  rw [if_neg c6] at H; have c6b0 : (a0_3 == a1_3) = false := beq_eq_false_iff_ne.mpr c6; have c6b1 : (a0_3 != a1_3) = true := bne_iff_ne.mpr c6; obtain rfl := Option.some.inj H
  go_enter Try.func21, Try.ntmps21
  go_wp2_with (first | ((with_reducible refine gate_dst (N := 2) rfl ?_); refine box_event ?hg (N := 2) ?hd (cs := #[.int .i64 a0_0, .int .i64 a0_1, .int .i64 a0_2, .int .i64 a0_3, .int .i64 a0_4, .slice A0_5 l0_5.length c0_5]) (t := 35) ?hr ?_; (case hd => rfl); (case hg => rfl); (case hr => first | (go_simp; done) | (go_simp; rfl)); intro gb109 hg w27 hbox hb; have n0_ := am_ (below_step belowNow hb); have n1_ := am_ (hbox); have n2_ := am_ ((by rw [hg]; exact (below_size belowNow) : w.heap.size ≤ gb109)); have n3_ := n2_; clear HB; have HB := n0_; have BK109 := n1_; have GW109 := n2_; have GE109 := n3_; clear n0_ n1_ n2_ n3_; clear hb hbox hg) | ((with_reducible refine gate_dst (N := 3) rfl ?_); refine box_event ?hg (N := 3) ?hd (cs := #[.int .i64 a1_0, .int .i64 a1_1, .int .i64 a1_2, .int .i64 a1_3, .int .i64 a1_4, .slice A1_5 l1_5.length c1_5]) (t := 35) ?hr ?_; (case hd => rfl); (case hg => rfl); (case hr => first | (go_simp; done) | (go_simp; rfl)); intro gb110 hg w28 hbox hb; have n0_ := am_ (blkStep (g := gb109) hb); have n1_ := am_ (below_step belowNow hb); have n2_ := am_ (hbox); have n3_ := am_ ((by rw [hg]; exact (below_size belowNow) : w.heap.size ≤ gb110)); have n4_ := n3_; have n5_ := am_ ((by rw [hg]; exact Nat.ne_of_lt (blkLt (g := gb109)) : gb109 ≠ gb110)); have n6_ := am_ ((by rw [hg]; exact Nat.ne_of_gt (blkLt (g := gb109)) : gb110 ≠ gb109)); clear BK109; clear HB; have BK109 := n0_; have HB := n1_; have BK110 := n2_; have GW110 := n3_; have GE110 := n4_; have NB109_110 := n5_; have NB110_109 := n6_; clear n0_ n1_ n2_ n3_ n4_ n5_ n6_; clear hb hbox hg; have ⟨hnb29, hnc29⟩ := nn1_ NB109_110.out; have hcz30_0 := cz1_ BK109.out 0 rfl; have hcz30_1 := cz1_ BK109.out 1 rfl; have hcz30_2 := cz1_ BK109.out 2 rfl; have hcz30_3 := cz1_ BK109.out 3 rfl; have hcz30_4 := cz1_ BK109.out 4 rfl; have hcz30_5 := cz1_ BK109.out 5 rfl; have hfz30_0 := blk_frozen BK109.out 0; have hfz30_1 := blk_frozen BK109.out 1; have hfz30_2 := blk_frozen BK109.out 2; have hfz30_3 := blk_frozen BK109.out 3; have hfz30_4 := blk_frozen BK109.out 4; have hfz30_5 := blk_frozen BK109.out 5; have hcz31_0 := cz1_ BK110.out 0 rfl; have hcz31_1 := cz1_ BK110.out 1 rfl; have hcz31_2 := cz1_ BK110.out 2 rfl; have hcz31_3 := cz1_ BK110.out 3 rfl; have hcz31_4 := cz1_ BK110.out 4 rfl; have hcz31_5 := cz1_ BK110.out 5 rfl; have hfz31_0 := blk_frozen BK110.out 0; have hfz31_1 := blk_frozen BK110.out 1; have hfz31_2 := blk_frozen BK110.out 2; have hfz31_3 := blk_frozen BK110.out 3; have hfz31_4 := blk_frozen BK110.out 4; have hfz31_5 := blk_frozen BK110.out 5))
  go_ret
  exact ⟨by first | rfl | (simp [errW_none, errW_some] <;> rfl) | (simp [*, errW_none, errW_some] <;> rfl), belowNow⟩
 rw [if_pos c6] at H; have c6b0 : (a0_3 == a1_3) = true := beq_iff_eq.mpr c6; have c6b1 : (a0_3 != a1_3) = false := bne_eq_false_iff_eq.mpr c6; clear c6
 by_cases c7 : a0_4 = a1_4
 case neg =>
  rw [if_neg c7] at H; have c7b0 : (a0_4 == a1_4) = false := beq_eq_false_iff_ne.mpr c7; have c7b1 : (a0_4 != a1_4) = true := bne_iff_ne.mpr c7; obtain rfl := Option.some.inj H
  go_enter Try.func21, Try.ntmps21
  go_wp2_with (first | ((with_reducible refine gate_dst (N := 2) rfl ?_); refine box_event ?hg (N := 2) ?hd (cs := #[.int .i64 a0_0, .int .i64 a0_1, .int .i64 a0_2, .int .i64 a0_3, .int .i64 a0_4, .slice A0_5 l0_5.length c0_5]) (t := 35) ?hr ?_; (case hd => rfl); (case hg => rfl); (case hr => first | (go_simp; done) | (go_simp; rfl)); intro gb109 hg w22 hbox hb; have n0_ := am_ (below_step belowNow hb); have n1_ := am_ (hbox); have n2_ := am_ ((by rw [hg]; exact (below_size belowNow) : w.heap.size ≤ gb109)); have n3_ := n2_; clear HB; have HB := n0_; have BK109 := n1_; have GW109 := n2_; have GE109 := n3_; clear n0_ n1_ n2_ n3_; clear hb hbox hg) | ((with_reducible refine gate_dst (N := 3) rfl ?_); refine box_event ?hg (N := 3) ?hd (cs := #[.int .i64 a1_0, .int .i64 a1_1, .int .i64 a1_2, .int .i64 a1_3, .int .i64 a1_4, .slice A1_5 l1_5.length c1_5]) (t := 35) ?hr ?_; (case hd => rfl); (case hg => rfl); (case hr => first | (go_simp; done) | (go_simp; rfl)); intro gb110 hg w23 hbox hb; have n0_ := am_ (blkStep (g := gb109) hb); have n1_ := am_ (below_step belowNow hb); have n2_ := am_ (hbox); have n3_ := am_ ((by rw [hg]; exact (below_size belowNow) : w.heap.size ≤ gb110)); have n4_ := n3_; have n5_ := am_ ((by rw [hg]; exact Nat.ne_of_lt (blkLt (g := gb109)) : gb109 ≠ gb110)); have n6_ := am_ ((by rw [hg]; exact Nat.ne_of_gt (blkLt (g := gb109)) : gb110 ≠ gb109)); clear BK109; clear HB; have BK109 := n0_; have HB := n1_; have BK110 := n2_; have GW110 := n3_; have GE110 := n4_; have NB109_110 := n5_; have NB110_109 := n6_; clear n0_ n1_ n2_ n3_ n4_ n5_ n6_; clear hb hbox hg; have ⟨hnb24, hnc24⟩ := nn1_ NB109_110.out; have hcz25_0 := cz1_ BK109.out 0 rfl; have hcz25_1 := cz1_ BK109.out 1 rfl; have hcz25_2 := cz1_ BK109.out 2 rfl; have hcz25_3 := cz1_ BK109.out 3 rfl; have hcz25_4 := cz1_ BK109.out 4 rfl; have hcz25_5 := cz1_ BK109.out 5 rfl; have hfz25_0 := blk_frozen BK109.out 0; have hfz25_1 := blk_frozen BK109.out 1; have hfz25_2 := blk_frozen BK109.out 2; have hfz25_3 := blk_frozen BK109.out 3; have hfz25_4 := blk_frozen BK109.out 4; have hfz25_5 := blk_frozen BK109.out 5; have hcz26_0 := cz1_ BK110.out 0 rfl; have hcz26_1 := cz1_ BK110.out 1 rfl; have hcz26_2 := cz1_ BK110.out 2 rfl; have hcz26_3 := cz1_ BK110.out 3 rfl; have hcz26_4 := cz1_ BK110.out 4 rfl; have hcz26_5 := cz1_ BK110.out 5 rfl; have hfz26_0 := blk_frozen BK110.out 0; have hfz26_1 := blk_frozen BK110.out 1; have hfz26_2 := blk_frozen BK110.out 2; have hfz26_3 := blk_frozen BK110.out 3; have hfz26_4 := blk_frozen BK110.out 4; have hfz26_5 := blk_frozen BK110.out 5))
  go_ret
  exact ⟨by first | rfl | (simp [errW_none, errW_some] <;> rfl) | (simp [*, errW_none, errW_some] <;> rfl), belowNow⟩
 rw [if_pos c7] at H; have c7b0 : (a0_4 == a1_4) = true := beq_iff_eq.mpr c7; have c7b1 : (a0_4 != a1_4) = false := bne_eq_false_iff_eq.mpr c7; clear c7; replace H := Option.bind_eq_some_iff.mp H; obtain ⟨t111, A80, H⟩ := H
 replace H : (if t111 = true then (some true) else (some false)) = some r := H
 have A8 := am_ A80; clear A80
 by_cases c9 : t111 = true
 case pos =>
  subst c9
  have H1 : (some true) = some r := by rw [if_pos rfl] at H; exact H
  clear H; have H := H1; clear H1; obtain rfl := Option.some.inj H
  go_enter Try.func21, Try.ntmps21
  go_wp2_with (first | ((with_reducible refine gate_dst (N := 2) rfl ?_); refine box_event ?hg (N := 2) ?hd (cs := #[.int .i64 a0_0, .int .i64 a0_1, .int .i64 a0_2, .int .i64 a0_3, .int .i64 a0_4, .slice A0_5 l0_5.length c0_5]) (t := 35) ?hr ?_; (case hd => rfl); (case hg => rfl); (case hr => first | (go_simp; done) | (go_simp; rfl)); intro gb109 hg w10 hbox hb; have n0_ := am_ (below_step belowNow hb); have n1_ := am_ (hbox); have n2_ := am_ ((by rw [hg]; exact (below_size belowNow) : w.heap.size ≤ gb109)); have n3_ := n2_; clear HB; have HB := n0_; have BK109 := n1_; have GW109 := n2_; have GE109 := n3_; clear n0_ n1_ n2_ n3_; clear hb hbox hg) | ((with_reducible refine gate_dst (N := 3) rfl ?_); refine box_event ?hg (N := 3) ?hd (cs := #[.int .i64 a1_0, .int .i64 a1_1, .int .i64 a1_2, .int .i64 a1_3, .int .i64 a1_4, .slice A1_5 l1_5.length c1_5]) (t := 35) ?hr ?_; (case hd => rfl); (case hg => rfl); (case hr => first | (go_simp; done) | (go_simp; rfl)); intro gb110 hg w11 hbox hb; have n0_ := am_ (blkStep (g := gb109) hb); have n1_ := am_ (below_step belowNow hb); have n2_ := am_ (hbox); have n3_ := am_ ((by rw [hg]; exact (below_size belowNow) : w.heap.size ≤ gb110)); have n4_ := n3_; have n5_ := am_ ((by rw [hg]; exact Nat.ne_of_lt (blkLt (g := gb109)) : gb109 ≠ gb110)); have n6_ := am_ ((by rw [hg]; exact Nat.ne_of_gt (blkLt (g := gb109)) : gb110 ≠ gb109)); clear BK109; clear HB; have BK109 := n0_; have HB := n1_; have BK110 := n2_; have GW110 := n3_; have GE110 := n4_; have NB109_110 := n5_; have NB110_109 := n6_; clear n0_ n1_ n2_ n3_ n4_ n5_ n6_; clear hb hbox hg; have ⟨hnb12, hnc12⟩ := nn1_ NB109_110.out; have hcz13_0 := cz1_ BK109.out 0 rfl; have hcz13_1 := cz1_ BK109.out 1 rfl; have hcz13_2 := cz1_ BK109.out 2 rfl; have hcz13_3 := cz1_ BK109.out 3 rfl; have hcz13_4 := cz1_ BK109.out 4 rfl; have hcz13_5 := cz1_ BK109.out 5 rfl; have hfz13_0 := blk_frozen BK109.out 0; have hfz13_1 := blk_frozen BK109.out 1; have hfz13_2 := blk_frozen BK109.out 2; have hfz13_3 := blk_frozen BK109.out 3; have hfz13_4 := blk_frozen BK109.out 4; have hfz13_5 := blk_frozen BK109.out 5; have hcz14_0 := cz1_ BK110.out 0 rfl; have hcz14_1 := cz1_ BK110.out 1 rfl; have hcz14_2 := cz1_ BK110.out 2 rfl; have hcz14_3 := cz1_ BK110.out 3 rfl; have hcz14_4 := cz1_ BK110.out 4 rfl; have hcz14_5 := cz1_ BK110.out 5 rfl; have hfz14_0 := blk_frozen BK110.out 0; have hfz14_1 := blk_frozen BK110.out 1; have hfz14_2 := blk_frozen BK110.out 2; have hfz14_3 := blk_frozen BK110.out 3; have hfz14_4 := blk_frozen BK110.out 4; have hfz14_5 := blk_frozen BK110.out 5) | ((with_reducible refine gate_callee (f := 16) rfl ?_); refine goesL_ (some 34) rfl rfl Try.func16 (by kernel_rfl) rfl #[.slice A0_5 l0_5.length c0_5, .slice A1_5 l1_5.length c1_5] rfl (by (try simp only [List.map_toArray, List.map_cons, List.map_nil]); first | done | rfl | (simp only [List.length_drop, List.length_take]; rfl)) ?_; (with_reducible refine (laws_eqPacketS.calls k _ _ l0_5 _ _ l1_5 true _ ?side1 ?side2 ?side3 ?side4 A8.out).mono ?_); (case side1 => repeat (first | exact (Kd.C_below HR0_5.out HB.out) | (with_reducible refine Kd.C_alloc ?_ _) | (with_reducible refine Kd.C_drewN ?_ _) | (with_reducible refine Kd.C_drew ?_))); (case side2 => exact HC0_5.out); (case side3 => repeat (first | exact (Kd.C_below HR1_5.out HB.out) | (with_reducible refine Kd.C_alloc ?_ _) | (with_reducible refine Kd.C_drewN ?_ _) | (with_reducible refine Kd.C_drew ?_))); (case side4 => exact HC1_5.out); rintro e w15 ⟨rfl, hb⟩; refine ⟨_, rfl, ?_⟩; replace BK109 := am_ (blkStep (g := gb109) hb); replace BK110 := am_ (blkStep (g := gb110) hb); replace HB := am_ (below_step belowNow hb); (try clear hb); (try clear hb2); (try clear hk); (try clear hi)))
  go_ret
  exact ⟨by first | rfl | (simp [errW_none, errW_some] <;> rfl) | (simp [*, errW_none, errW_some] <;> rfl), belowNow⟩
 replace c9 := Bool.eq_false_iff.mpr c9; subst c9
 have H1 : (some false) = some r := by rw [if_neg (show ¬ (false = true) by decide)] at H; exact H
 clear H; have H := H1; clear H1; obtain rfl := Option.some.inj H
 go_enter Try.func21, Try.ntmps21
 go_wp2_with (first | ((with_reducible refine gate_dst (N := 2) rfl ?_); refine box_event ?hg (N := 2) ?hd (cs := #[.int .i64 a0_0, .int .i64 a0_1, .int .i64 a0_2, .int .i64 a0_3, .int .i64 a0_4, .slice A0_5 l0_5.length c0_5]) (t := 35) ?hr ?_; (case hd => rfl); (case hg => rfl); (case hr => first | (go_simp; done) | (go_simp; rfl)); intro gb109 hg w16 hbox hb; have n0_ := am_ (below_step belowNow hb); have n1_ := am_ (hbox); have n2_ := am_ ((by rw [hg]; exact (below_size belowNow) : w.heap.size ≤ gb109)); have n3_ := n2_; clear HB; have HB := n0_; have BK109 := n1_; have GW109 := n2_; have GE109 := n3_; clear n0_ n1_ n2_ n3_; clear hb hbox hg) | ((with_reducible refine gate_dst (N := 3) rfl ?_); refine box_event ?hg (N := 3) ?hd (cs := #[.int .i64 a1_0, .int .i64 a1_1, .int .i64 a1_2, .int .i64 a1_3, .int .i64 a1_4, .slice A1_5 l1_5.length c1_5]) (t := 35) ?hr ?_; (case hd => rfl); (case hg => rfl); (case hr => first | (go_simp; done) | (go_simp; rfl)); intro gb110 hg w17 hbox hb; have n0_ := am_ (blkStep (g := gb109) hb); have n1_ := am_ (below_step belowNow hb); have n2_ := am_ (hbox); have n3_ := am_ ((by rw [hg]; exact (below_size belowNow) : w.heap.size ≤ gb110)); have n4_ := n3_; have n5_ := am_ ((by rw [hg]; exact Nat.ne_of_lt (blkLt (g := gb109)) : gb109 ≠ gb110)); have n6_ := am_ ((by rw [hg]; exact Nat.ne_of_gt (blkLt (g := gb109)) : gb110 ≠ gb109)); clear BK109; clear HB; have BK109 := n0_; have HB := n1_; have BK110 := n2_; have GW110 := n3_; have GE110 := n4_; have NB109_110 := n5_; have NB110_109 := n6_; clear n0_ n1_ n2_ n3_ n4_ n5_ n6_; clear hb hbox hg; have ⟨hnb18, hnc18⟩ := nn1_ NB109_110.out; have hcz19_0 := cz1_ BK109.out 0 rfl; have hcz19_1 := cz1_ BK109.out 1 rfl; have hcz19_2 := cz1_ BK109.out 2 rfl; have hcz19_3 := cz1_ BK109.out 3 rfl; have hcz19_4 := cz1_ BK109.out 4 rfl; have hcz19_5 := cz1_ BK109.out 5 rfl; have hfz19_0 := blk_frozen BK109.out 0; have hfz19_1 := blk_frozen BK109.out 1; have hfz19_2 := blk_frozen BK109.out 2; have hfz19_3 := blk_frozen BK109.out 3; have hfz19_4 := blk_frozen BK109.out 4; have hfz19_5 := blk_frozen BK109.out 5; have hcz20_0 := cz1_ BK110.out 0 rfl; have hcz20_1 := cz1_ BK110.out 1 rfl; have hcz20_2 := cz1_ BK110.out 2 rfl; have hcz20_3 := cz1_ BK110.out 3 rfl; have hcz20_4 := cz1_ BK110.out 4 rfl; have hcz20_5 := cz1_ BK110.out 5 rfl; have hfz20_0 := blk_frozen BK110.out 0; have hfz20_1 := blk_frozen BK110.out 1; have hfz20_2 := blk_frozen BK110.out 2; have hfz20_3 := blk_frozen BK110.out 3; have hfz20_4 := blk_frozen BK110.out 4; have hfz20_5 := blk_frozen BK110.out 5) | ((with_reducible refine gate_callee (f := 16) rfl ?_); refine goesL_ (some 34) rfl rfl Try.func16 (by kernel_rfl) rfl #[.slice A0_5 l0_5.length c0_5, .slice A1_5 l1_5.length c1_5] rfl (by (try simp only [List.map_toArray, List.map_cons, List.map_nil]); first | done | rfl | (simp only [List.length_drop, List.length_take]; rfl)) ?_; (with_reducible refine (laws_eqPacketS.calls k _ _ l0_5 _ _ l1_5 false _ ?side1 ?side2 ?side3 ?side4 A8.out).mono ?_); (case side1 => repeat (first | exact (Kd.C_below HR0_5.out HB.out) | (with_reducible refine Kd.C_alloc ?_ _) | (with_reducible refine Kd.C_drewN ?_ _) | (with_reducible refine Kd.C_drew ?_))); (case side2 => exact HC0_5.out); (case side3 => repeat (first | exact (Kd.C_below HR1_5.out HB.out) | (with_reducible refine Kd.C_alloc ?_ _) | (with_reducible refine Kd.C_drewN ?_ _) | (with_reducible refine Kd.C_drew ?_))); (case side4 => exact HC1_5.out); rintro e w21 ⟨rfl, hb⟩; refine ⟨_, rfl, ?_⟩; replace BK109 := am_ (blkStep (g := gb109) hb); replace BK110 := am_ (blkStep (g := gb110) hb); replace HB := am_ (below_step belowNow hb); (try clear hb); (try clear hb2); (try clear hk); (try clear hi)))
 go_ret
 exact ⟨by first | rfl | (simp [errW_none, errW_some] <;> rfl) | (simp [*, errW_none, errW_some] <;> rfl), belowNow⟩
end Go.Proofs.Ytbgdmbjipladoaa.PFnExactPlay
