-- laid by a program of this session (wip/lay/lay.py); Lean checks it
import Derived.Test.YteaelhdcmnhcbaaPFnFramedx0
import Derived.Test.YteaelhdcmnhcbaaPFnFramedx3
import Derived.Test.YteaelhdcmnhcbaaPFnFramedx4
import Derived.Test.YteaelhdcmnhcbaaPFnFramedx5
namespace Go.Proofs.Yteaelhdcmnhcbaa.PFnFramed
open Go.RowKit Go.Proofs.YteaelhdcmnhcbaaW.PrintWords Go.Proofs.YteaelhdcmnhcbaaW.PrintLast Go.Proofs.YteaelhdcmnhcbaaW.PrintMore
attribute [local go_sem] max2_int min2_int max_two min_two max_three min_three max_four min_four   -- for this text's walks alone
set_option linter.unusedVariables false
set_option linter.unusedSimpArgs false

/-! ### spec_FrameOf: function 39 -/
def spec_FrameOf.bt (n : List Int) (j : Int) : Int := IntKind.u8.wrap (wrap64 (wrap64 (16 * rd n (2 * j)) + rd n (2 * j + 1)))
def spec_FrameOf.b0 (s : Int) : Int := IntKind.u8.wrap s
theorem spec_FrameOf.list (r1 r2 r3 r4 r5 r6 r7 r8 r9 r10 r11 r12 r13 r14 r15 r16 : Int) : (#[.int .u8 r1, .int .u8 r2, .int .u8 r3, .int .u8 r4, .int .u8 r5, .int .u8 r6, .int .u8 r7, .int .u8 r8, .int .u8 r9, .int .u8 r10, .int .u8 r11, .int .u8 r12, .int .u8 r13, .int .u8 r14, .int .u8 r15, .int .u8 r16] : Array Value) = Arr.u8s [r1, r2, r3, r4, r5, r6, r7, r8, r9, r10, r11, r12, r13, r14, r15, r16] := rfl
theorem spec_FrameOf.set_next (l : List Int) (n i : Nat) (hl : l.length = n) (hi : i < n) : (l.take i ++ List.replicate (n - i) (0 : Int)).set i (l.getD i 0) = l.take (i + 1) ++ List.replicate (n - (i + 1)) (0 : Int) := by
  apply List.ext_getElem?
  intro j
  by_cases hj : j = i
  · subst hj
    rw [List.getElem?_set_self (by simp; omega), List.getElem?_append_left (by simp; omega), List.getElem?_take_of_lt (by omega), List.getElem?_eq_getElem (by omega)]
    simp [List.getD_eq_getElem?_getD, List.getElem?_eq_getElem (show j < l.length by omega)]
  · rw [List.getElem?_set_ne (by omega)]
    by_cases h1 : j < i
    · rw [List.getElem?_append_left (by simp; omega), List.getElem?_append_left (by simp; omega), List.getElem?_take_of_lt h1, List.getElem?_take_of_lt (by omega)]
    · rw [List.getElem?_append_right (by simp; omega), List.getElem?_append_right (by simp; omega), List.getElem?_replicate, List.getElem?_replicate]
      simp only [List.length_take]
      split <;> split <;> first | rfl | omega
section
variable {P : Program} {ops : Array Oper} {o : Oper} {a : Act} {Q : Exit → Act → World → Prop} {W : World} {Kc : Act → World → Prop}
theorem spec_FrameOf.load_run {T : TypeId} {p : Tmp} (ho : o.op = .load T (.tmp p)) {g : Nat} {cs : Array Value} {t : TypeId} {fr : Nat × Nat} {d : TypeDesc}
    (hp : a.eval (.tmp p) = .pointer (some ⟨g, 0, none⟩)) (hb : W.heap[g]? = some (.cells cs t fr)) (hu : P.underlying T = some d) (hr : (match d with | .struct _ | .array _ _ => true | _ => false) = true)
    (hi : (P.info? T).map (·.size) = some cs.size) : (execOp a.eval o).run P W = .ok (.value (.agg cs)) W := by
  have hrun : (Instr.loadAt T (.pointer (some ⟨g, 0, none⟩))).run P W = .ok (.agg cs) W := by
    simp only [Instr.loadAt, Instr.sureAddr, Sem.run_bind, Sem.run_pure, Result.andThen_ok, run_loadVar_row W g t T cs fr d hb hu hr hi]
  simp only [execOp, ho, hp]
  simp [hrun, Result.andThen]
theorem spec_FrameOf.store_step (hw : Region.wanted o (yielded ops a.tmps) = true) {T : TypeId} {p : Tmp} {v : Operand} (ho : o.op = .store T (.tmp p) v) (hN : o.dst = none) {g : Nat} {old cs : Array Value} {t : TypeId}
    (hp : a.eval (.tmp p) = .pointer (some ⟨g, 0, none⟩)) (hv : a.eval v = .agg cs) (hb : W.heap[g]? = some (.cells old t (0, 0))) (hi : (P.info? T).map (·.size) = some cs.size) (hs : old.size = cs.size)
    (h1 : cs.all (·.oneCell') = true)
    (h : ∀ w', w'.heap[g]? = some (.cells cs t (0, 0)) → (∀ k, k ≠ g → w'.heap[k]? = W.heap[k]?) → (∀ (B : Nat) (w0 : World), Below B w0 W → B ≤ g → Below B w0 w') → Kc a w') :
    if Region.wanted o (yielded ops a.tmps) = true then Oper.wp P o a W Kc Q else Kc (a.put o.dst undef) W := by
  rw [if_pos hw]
  have hrun : (Instr.storeAt T (.pointer (some ⟨g, 0, none⟩)) (.agg cs)).run P W = .ok () (W.setRow g cs) := by
    simp only [Instr.storeAt, Instr.sureAddr, Sem.run_bind, Sem.run_pure, Result.andThen_ok, run_storeVar_row W g t T old cs hb hi hs h1]
  have hrow : (W.setRow g cs).heap[g]? = some (.cells cs t (0, 0)) := by
    simp [World.setRow, Array.getElem?_modify, hb]
  have hexec : (execOp a.eval o).run P W = .ok .skip (W.setRow g cs) := by
    simp only [execOp, ho, hp, hv]
    simp [hrun, Result.andThen]
  unfold Oper.wp
  rw [hexec]
  show Kc (a.put o.dst undef) (W.setRow g cs)
  rw [hN]
  exact h _ hrow (fun k hk => setRow_other W g k cs hk) (fun B w0 hB hg => below_setRow hB hg cs)
end
def spec_FrameOf.f (k : Nat) (a0_0 a0_1 : Int) (l1 : List Int) : Option (Int × Int × Int × Int × Int × Int × Int × Int × Int × Int × Int × Int × Int × Int × Int × Int × Int × Int × Bool) := (spec_l11Coder.f a0_0 a0_1).bind fun t => if t = true then ((spec_VoiceOk.f k l1).bind fun v => if v = true ∧ l1.length = 30 then ((spec_Squeeze.f k a0_0 a0_1 l1).bind fun bt => if 30 ≤ bt.1.length then some (spec_FrameOf.b0 a0_1, spec_FrameOf.bt bt.1 0, spec_FrameOf.bt bt.1 1, spec_FrameOf.bt bt.1 2, spec_FrameOf.bt bt.1 3, spec_FrameOf.bt bt.1 4, spec_FrameOf.bt bt.1 5, spec_FrameOf.bt bt.1 6, spec_FrameOf.bt bt.1 7, spec_FrameOf.bt bt.1 8, spec_FrameOf.bt bt.1 9, spec_FrameOf.bt bt.1 10, spec_FrameOf.bt bt.1 11, spec_FrameOf.bt bt.1 12, spec_FrameOf.bt bt.1 13, spec_FrameOf.bt bt.1 14, bt.2.1, bt.2.2.1, true) else none) else some (0, 0, 0, 0, 0, 0, 0, 0, 0, 0, 0, 0, 0, 0, 0, 0, 0, 0, false)) else some (0, 0, 0, 0, 0, 0, 0, 0, 0, 0, 0, 0, 0, 0, 0, 0, 0, 0, false)
theorem spec_FrameOf.mono : ∀ a0_0 a0_1 l1 k, LeO (spec_FrameOf.f k a0_0 a0_1 l1) (spec_FrameOf.f (k + 1) a0_0 a0_1 l1) := by
  intro a0_0 a0_1 l1 k
  unfold spec_FrameOf.f
  repeat' first
    | (with_reducible exact spec_Squeeze.mono _ _ _ _)
    | (with_reducible exact spec_VoiceOk.mono _ _)
    | (with_reducible exact LeO.refl _)
    | (with_reducible refine LeO.ite ?_ ?_)
    | (with_reducible refine LeO.bind ?_ (fun _ => ?_))
set_option maxHeartbeats 8000000 in
set_option maxRecDepth 100000 in
theorem spec_FrameOf.calls (k : Nat) (a0_0 a0_1 : Int) (A1 : Option Addr) (c1 : Nat) (l1 : List Int) (r1 r2 r3 r4 r5 r6 r7 r8 r9 r10 r11 r12 r13 r14 r15 r16 r17 r18 : Int) (r19 : Bool) (w : World) (hr1 : Kd.C (Kd.int .i64) w A1 l1.length l1) (hc1 : l1.length ≤ c1) (h : spec_FrameOf.f k a0_0 a0_1 l1 = some (r1, r2, r3, r4, r5, r6, r7, r8, r9, r10, r11, r12, r13, r14, r15, r16, r17, r18, r19)) :
    Calls Try.prog 39 #[.agg #[.int .i64 a0_0, .int .i64 a0_1], .slice A1 l1.length c1] w fun e w' => e = .returned (.tuple #[.agg #[.int .u8 r1, .int .u8 r2, .int .u8 r3, .int .u8 r4, .int .u8 r5, .int .u8 r6, .int .u8 r7, .int .u8 r8, .int .u8 r9, .int .u8 r10, .int .u8 r11, .int .u8 r12, .int .u8 r13, .int .u8 r14, .int .u8 r15, .int .u8 r16], .agg #[.int .i64 r17, .int .i64 r18], .bool r19]) ∧ Below w.heap.size w w' := by
  have hu41 := Try.underlying41
  have hu34 := Try.underlying34
  have HB := Aside0.mk (Below.refl w.heap.size w)
  have HR := Aside0.mk hr1
  have HC := Aside0.mk hc1
  clear hr1 hc1
  rw [spec_FrameOf.f] at h
  obtain ⟨t, At, H⟩ := Option.bind_eq_some_iff.mp h
  have HQ := Aside0.mk (show ∀ W : World, Calls Try.prog 55 #[.agg #[.int .i64 a0_0, .int .i64 a0_1]] W (fun e w' => e = .returned (.bool t) ∧ Below W.heap.size W w') from fun W => spec_l11Coder.calls a0_0 a0_1 t W At)
  clear h At
  rw [spec_FrameOf.list r1 r2 r3 r4 r5 r6 r7 r8 r9 r10 r11 r12 r13 r14 r15 r16]
  cases t with
  | false =>
    rw [if_neg (by decide)] at H
    simp only [Option.some.injEq, Prod.mk.injEq] at H
    obtain ⟨rfl, rfl, rfl, rfl, rfl, rfl, rfl, rfl, rfl, rfl, rfl, rfl, rfl, rfl, rfl, rfl, rfl, rfl, rfl⟩ := H
    go_enter Try.func39, Try.ntmps39
    go_wp2_with (first | ((with_reducible refine gate_dst (N := 2) rfl ?_); refine box_event ?hg (N := 2) ?hd (cs := #[.int .i64 a0_0, .int .i64 a0_1]) (t := 34) ?hr ?_; (case hd => rfl); (case hg => rfl); (case hr => first | (go_simp; done) | (go_simp; rfl)); intro gA hg_ wgA hbox_ hb_; have G_gA := Aside0.mk (show w.heap.size ≤ gA by rw [hg_]; exact below_size HB.out); have n_HB := Aside0.mk (below_step HB.out hb_); clear HB; have HB := n_HB; clear n_HB; have S_gA := Aside0.mk hbox_; clear hg_ hbox_ hb_) | ((with_reducible refine gate_dst (N := 4) rfl ?_); refine box_event ?hg (N := 4) ?hd (cs := #[.int .u8 0, .int .u8 0, .int .u8 0, .int .u8 0, .int .u8 0, .int .u8 0, .int .u8 0, .int .u8 0, .int .u8 0, .int .u8 0, .int .u8 0, .int .u8 0, .int .u8 0, .int .u8 0, .int .u8 0, .int .u8 0]) (t := 41) ?hr ?_; (case hd => rfl); (case hg => rfl); (case hr => first | (go_simp; done) | (go_simp; rfl)); intro gF hg_ wgF hbox_ hb_; have G_gF := Aside0.mk (show w.heap.size ≤ gF by rw [hg_]; exact below_size HB.out); have N_gA_gF := Aside0.mk (show gA ≠ gF by rw [hg_]; exact Nat.ne_of_lt (blk_lt S_gA.out)); have N_gF_gA := Aside0.mk (show gF ≠ gA by rw [hg_]; exact Nat.ne_of_gt (blk_lt S_gA.out)); have n_S_gA := Aside0.mk (blk_below S_gA.out hb_); have n_HB := Aside0.mk (below_step HB.out hb_); clear S_gA HB; have S_gA := n_S_gA; have HB := n_HB; clear n_S_gA n_HB; have S_gF := Aside0.mk hbox_; clear hg_ hbox_ hb_) | ((with_reducible refine gate_dst (N := 5) rfl ?_); refine box_event ?hg (N := 5) ?hd (cs := #[.int .i64 0, .int .i64 0]) (t := 34) ?hr ?_; (case hd => rfl); (case hg => rfl); (case hr => first | (go_simp; done) | (go_simp; rfl)); intro gE hg_ wgE hbox_ hb_; have G_gE := Aside0.mk (show w.heap.size ≤ gE by rw [hg_]; exact below_size HB.out); have N_gA_gE := Aside0.mk (show gA ≠ gE by rw [hg_]; exact Nat.ne_of_lt (blk_lt S_gA.out)); have N_gE_gA := Aside0.mk (show gE ≠ gA by rw [hg_]; exact Nat.ne_of_gt (blk_lt S_gA.out)); have N_gF_gE := Aside0.mk (show gF ≠ gE by rw [hg_]; exact Nat.ne_of_lt (blk_lt S_gF.out)); have N_gE_gF := Aside0.mk (show gE ≠ gF by rw [hg_]; exact Nat.ne_of_gt (blk_lt S_gF.out)); have n_S_gA := Aside0.mk (blk_below S_gA.out hb_); have n_S_gF := Aside0.mk (blk_below S_gF.out hb_); have n_HB := Aside0.mk (below_step HB.out hb_); clear S_gA S_gF HB; have S_gA := n_S_gA; have S_gF := n_S_gF; have HB := n_HB; clear n_S_gA n_S_gF n_HB; have S_gE := Aside0.mk hbox_; clear hg_ hbox_ hb_) | ((with_reducible refine gate_dst (N := 7) rfl ?_); refine box_event ?hg (N := 7) ?hd (cs := #[.int .u8 0, .int .u8 0, .int .u8 0, .int .u8 0, .int .u8 0, .int .u8 0, .int .u8 0, .int .u8 0, .int .u8 0, .int .u8 0, .int .u8 0, .int .u8 0, .int .u8 0, .int .u8 0, .int .u8 0, .int .u8 0]) (t := 41) ?hr ?_; (case hd => rfl); (case hg => rfl); (case hr => first | (go_simp; done) | (go_simp; rfl)); intro gB hg_ wgB hbox_ hb_; have G_gB := Aside0.mk (show w.heap.size ≤ gB by rw [hg_]; exact below_size HB.out); have N_gA_gB := Aside0.mk (show gA ≠ gB by rw [hg_]; exact Nat.ne_of_lt (blk_lt S_gA.out)); have N_gB_gA := Aside0.mk (show gB ≠ gA by rw [hg_]; exact Nat.ne_of_gt (blk_lt S_gA.out)); have N_gF_gB := Aside0.mk (show gF ≠ gB by rw [hg_]; exact Nat.ne_of_lt (blk_lt S_gF.out)); have N_gB_gF := Aside0.mk (show gB ≠ gF by rw [hg_]; exact Nat.ne_of_gt (blk_lt S_gF.out)); have N_gE_gB := Aside0.mk (show gE ≠ gB by rw [hg_]; exact Nat.ne_of_lt (blk_lt S_gE.out)); have N_gB_gE := Aside0.mk (show gB ≠ gE by rw [hg_]; exact Nat.ne_of_gt (blk_lt S_gE.out)); have n_S_gA := Aside0.mk (blk_below S_gA.out hb_); have n_S_gF := Aside0.mk (blk_below S_gF.out hb_); have n_S_gE := Aside0.mk (blk_below S_gE.out hb_); have n_HB := Aside0.mk (below_step HB.out hb_); clear S_gA S_gF S_gE HB; have S_gA := n_S_gA; have S_gF := n_S_gF; have S_gE := n_S_gE; have HB := n_HB; clear n_S_gA n_S_gF n_S_gE n_HB; have S_gB := Aside0.mk hbox_; clear hg_ hbox_ hb_) | ((with_reducible refine gate_store (t := 41) (p := 7) rfl ?_); refine Arr.store_all (T := 41) (p := 7) (g := gB) (old := #[.int .u8 0, .int .u8 0, .int .u8 0, .int .u8 0, .int .u8 0, .int .u8 0, .int .u8 0, .int .u8 0, .int .u8 0, .int .u8 0, .int .u8 0, .int .u8 0, .int .u8 0, .int .u8 0, .int .u8 0, .int .u8 0]) (cs := #[.int .u8 0, .int .u8 0, .int .u8 0, .int .u8 0, .int .u8 0, .int .u8 0, .int .u8 0, .int .u8 0, .int .u8 0, .int .u8 0, .int .u8 0, .int .u8 0, .int .u8 0, .int .u8 0, .int .u8 0, .int .u8 0]) (t := 41) rfl rfl rfl rfl rfl S_gB.out (by kernel_rfl) (by first | rfl | (simp)) (by first | rfl | simp [Value.oneCell']) ?_; intro w2 hs_ hk_ hB_; have n_S_gA := Aside0.mk ((hk_ _ N_gA_gB.out).trans S_gA.out); have n_S_gF := Aside0.mk ((hk_ _ N_gF_gB.out).trans S_gF.out); have n_S_gE := Aside0.mk ((hk_ _ N_gE_gB.out).trans S_gE.out); have n_S_gB := Aside0.mk (hs_); have n_HB := Aside0.mk (hB_ _ _ HB.out G_gB.out); clear S_gA S_gF S_gE S_gB HB; have S_gA := n_S_gA; have S_gF := n_S_gF; have S_gE := n_S_gE; have S_gB := n_S_gB; have HB := n_HB; clear n_S_gA n_S_gF n_S_gE n_S_gB n_HB; clear hs_ hk_ hB_) | ((with_reducible refine gate_dst (N := 13) rfl ?_); refine Arr.load_all rfl rfl rfl rfl S_gA.out hu34 rfl (by kernel_rfl) ?_) | (go_at_call 55; (with_reducible refine (HQ.out _).mono ?_); rintro e w3 ⟨rfl, hb_⟩; (try refine ⟨_, rfl, ?_⟩); have n_S_gA := Aside0.mk (blk_below S_gA.out hb_); have n_S_gF := Aside0.mk (blk_below S_gF.out hb_); have n_S_gE := Aside0.mk (blk_below S_gE.out hb_); have n_S_gB := Aside0.mk (blk_below S_gB.out hb_); have n_HB := Aside0.mk (below_step HB.out hb_); clear S_gA S_gF S_gE S_gB HB; have S_gA := n_S_gA; have S_gF := n_S_gF; have S_gE := n_S_gE; have S_gB := n_S_gB; have HB := n_HB; clear n_S_gA n_S_gF n_S_gE n_S_gB n_HB; clear hb_) | ((with_reducible refine gate_dst (N := 26) rfl ?_); refine Arr.load_all rfl rfl rfl rfl S_gB.out hu41 rfl (by kernel_rfl) ?_) | ((with_reducible refine gate_store (t := 41) (p := 4) rfl ?_); refine Arr.store_all (T := 41) (p := 4) (g := gF) (old := #[.int .u8 0, .int .u8 0, .int .u8 0, .int .u8 0, .int .u8 0, .int .u8 0, .int .u8 0, .int .u8 0, .int .u8 0, .int .u8 0, .int .u8 0, .int .u8 0, .int .u8 0, .int .u8 0, .int .u8 0, .int .u8 0]) (cs := #[.int .u8 0, .int .u8 0, .int .u8 0, .int .u8 0, .int .u8 0, .int .u8 0, .int .u8 0, .int .u8 0, .int .u8 0, .int .u8 0, .int .u8 0, .int .u8 0, .int .u8 0, .int .u8 0, .int .u8 0, .int .u8 0]) (t := 41) rfl rfl rfl rfl rfl S_gF.out (by kernel_rfl) (by first | rfl | (simp)) (by first | rfl | simp [Value.oneCell']) ?_; intro w5 hs_ hk_ hB_; have n_S_gA := Aside0.mk ((hk_ _ N_gA_gF.out).trans S_gA.out); have n_S_gF := Aside0.mk (hs_); have n_S_gE := Aside0.mk ((hk_ _ N_gE_gF.out).trans S_gE.out); have n_S_gB := Aside0.mk ((hk_ _ N_gB_gF.out).trans S_gB.out); have n_HB := Aside0.mk (hB_ _ _ HB.out G_gF.out); clear S_gA S_gF S_gE S_gB HB; have S_gA := n_S_gA; have S_gF := n_S_gF; have S_gE := n_S_gE; have S_gB := n_S_gB; have HB := n_HB; clear n_S_gA n_S_gF n_S_gE n_S_gB n_HB; clear hs_ hk_ hB_) | ((with_reducible refine gate_store (t := 34) (p := 5) rfl ?_); refine Arr.store_all (T := 34) (p := 5) (g := gE) (old := #[.int .i64 0, .int .i64 0]) (cs := #[.int .i64 0, .int .i64 0]) (t := 34) rfl rfl rfl rfl rfl S_gE.out (by kernel_rfl) (by first | rfl | (simp)) (by first | rfl | simp [Value.oneCell']) ?_; intro w6 hs_ hk_ hB_; have n_S_gA := Aside0.mk ((hk_ _ N_gA_gE.out).trans S_gA.out); have n_S_gF := Aside0.mk ((hk_ _ N_gF_gE.out).trans S_gF.out); have n_S_gE := Aside0.mk (hs_); have n_S_gB := Aside0.mk ((hk_ _ N_gB_gE.out).trans S_gB.out); have n_HB := Aside0.mk (hB_ _ _ HB.out G_gE.out); clear S_gA S_gF S_gE S_gB HB; have S_gA := n_S_gA; have S_gF := n_S_gF; have S_gE := n_S_gE; have S_gB := n_S_gB; have HB := n_HB; clear n_S_gA n_S_gF n_S_gE n_S_gB n_HB; clear hs_ hk_ hB_))
    refine bodyPost_ret (results_list (rs := [.cell 4 41, .cell 5 34, .tmp 6]) rfl (by simp) (.cell gF 41 #[.int .u8 0, .int .u8 0, .int .u8 0, .int .u8 0, .int .u8 0, .int .u8 0, .int .u8 0, .int .u8 0, .int .u8 0, .int .u8 0, .int .u8 0, .int .u8 0, .int .u8 0, .int .u8 0, .int .u8 0, .int .u8 0] (0, 0) _ rfl S_gF.out Try.underlying41 rfl (by kernel_rfl) (.cell gE 34 #[.int .i64 0, .int .i64 0] (0, 0) _ rfl S_gE.out Try.underlying34 rfl (by kernel_rfl) (.tmp .nil)))) rfl ?_
    exact ⟨rfl, HB.out⟩
  | true =>
  rw [if_pos rfl] at H
  obtain ⟨v, Av, H⟩ := Option.bind_eq_some_iff.mp H
  have HV := Aside0.mk (show ∀ W : World, Kd.C (Kd.int .i64) W A1 l1.length l1 → Calls Try.prog 18 #[.slice A1 l1.length c1] W (fun e w' => e = .returned (.bool v) ∧ Below W.heap.size W w') from fun W hr => (spec_VoiceOk.calls k A1 c1 l1 v W hr HC.out Av).mono (fun e w' hq => by obtain ⟨h1, nd, rfl⟩ := hq; exact ⟨h1, pw_below_drewN (Below.refl _ _) nd⟩))
  clear Av
  by_cases c : v = true ∧ l1.length = 30
  case neg =>
    rw [if_neg c] at H
    simp only [Option.some.injEq, Prod.mk.injEq] at H
    obtain ⟨rfl, rfl, rfl, rfl, rfl, rfl, rfl, rfl, rfl, rfl, rfl, rfl, rfl, rfl, rfl, rfl, rfl, rfl, rfl⟩ := H
    cases v with
    | false =>
      clear c
      go_enter Try.func39, Try.ntmps39
      go_wp2_with (first | ((with_reducible refine gate_dst (N := 2) rfl ?_); refine box_event ?hg (N := 2) ?hd (cs := #[.int .i64 a0_0, .int .i64 a0_1]) (t := 34) ?hr ?_; (case hd => rfl); (case hg => rfl); (case hr => first | (go_simp; done) | (go_simp; rfl)); intro gA hg_ wgA hbox_ hb_; have G_gA := Aside0.mk (show w.heap.size ≤ gA by rw [hg_]; exact below_size HB.out); have n_HB := Aside0.mk (below_step HB.out hb_); clear HB; have HB := n_HB; clear n_HB; have S_gA := Aside0.mk hbox_; clear hg_ hbox_ hb_) | ((with_reducible refine gate_dst (N := 4) rfl ?_); refine box_event ?hg (N := 4) ?hd (cs := #[.int .u8 0, .int .u8 0, .int .u8 0, .int .u8 0, .int .u8 0, .int .u8 0, .int .u8 0, .int .u8 0, .int .u8 0, .int .u8 0, .int .u8 0, .int .u8 0, .int .u8 0, .int .u8 0, .int .u8 0, .int .u8 0]) (t := 41) ?hr ?_; (case hd => rfl); (case hg => rfl); (case hr => first | (go_simp; done) | (go_simp; rfl)); intro gF hg_ wgF hbox_ hb_; have G_gF := Aside0.mk (show w.heap.size ≤ gF by rw [hg_]; exact below_size HB.out); have N_gA_gF := Aside0.mk (show gA ≠ gF by rw [hg_]; exact Nat.ne_of_lt (blk_lt S_gA.out)); have N_gF_gA := Aside0.mk (show gF ≠ gA by rw [hg_]; exact Nat.ne_of_gt (blk_lt S_gA.out)); have n_S_gA := Aside0.mk (blk_below S_gA.out hb_); have n_HB := Aside0.mk (below_step HB.out hb_); clear S_gA HB; have S_gA := n_S_gA; have HB := n_HB; clear n_S_gA n_HB; have S_gF := Aside0.mk hbox_; clear hg_ hbox_ hb_) | ((with_reducible refine gate_dst (N := 5) rfl ?_); refine box_event ?hg (N := 5) ?hd (cs := #[.int .i64 0, .int .i64 0]) (t := 34) ?hr ?_; (case hd => rfl); (case hg => rfl); (case hr => first | (go_simp; done) | (go_simp; rfl)); intro gE hg_ wgE hbox_ hb_; have G_gE := Aside0.mk (show w.heap.size ≤ gE by rw [hg_]; exact below_size HB.out); have N_gA_gE := Aside0.mk (show gA ≠ gE by rw [hg_]; exact Nat.ne_of_lt (blk_lt S_gA.out)); have N_gE_gA := Aside0.mk (show gE ≠ gA by rw [hg_]; exact Nat.ne_of_gt (blk_lt S_gA.out)); have N_gF_gE := Aside0.mk (show gF ≠ gE by rw [hg_]; exact Nat.ne_of_lt (blk_lt S_gF.out)); have N_gE_gF := Aside0.mk (show gE ≠ gF by rw [hg_]; exact Nat.ne_of_gt (blk_lt S_gF.out)); have n_S_gA := Aside0.mk (blk_below S_gA.out hb_); have n_S_gF := Aside0.mk (blk_below S_gF.out hb_); have n_HB := Aside0.mk (below_step HB.out hb_); clear S_gA S_gF HB; have S_gA := n_S_gA; have S_gF := n_S_gF; have HB := n_HB; clear n_S_gA n_S_gF n_HB; have S_gE := Aside0.mk hbox_; clear hg_ hbox_ hb_) | ((with_reducible refine gate_dst (N := 7) rfl ?_); refine box_event ?hg (N := 7) ?hd (cs := #[.int .u8 0, .int .u8 0, .int .u8 0, .int .u8 0, .int .u8 0, .int .u8 0, .int .u8 0, .int .u8 0, .int .u8 0, .int .u8 0, .int .u8 0, .int .u8 0, .int .u8 0, .int .u8 0, .int .u8 0, .int .u8 0]) (t := 41) ?hr ?_; (case hd => rfl); (case hg => rfl); (case hr => first | (go_simp; done) | (go_simp; rfl)); intro gB hg_ wgB hbox_ hb_; have G_gB := Aside0.mk (show w.heap.size ≤ gB by rw [hg_]; exact below_size HB.out); have N_gA_gB := Aside0.mk (show gA ≠ gB by rw [hg_]; exact Nat.ne_of_lt (blk_lt S_gA.out)); have N_gB_gA := Aside0.mk (show gB ≠ gA by rw [hg_]; exact Nat.ne_of_gt (blk_lt S_gA.out)); have N_gF_gB := Aside0.mk (show gF ≠ gB by rw [hg_]; exact Nat.ne_of_lt (blk_lt S_gF.out)); have N_gB_gF := Aside0.mk (show gB ≠ gF by rw [hg_]; exact Nat.ne_of_gt (blk_lt S_gF.out)); have N_gE_gB := Aside0.mk (show gE ≠ gB by rw [hg_]; exact Nat.ne_of_lt (blk_lt S_gE.out)); have N_gB_gE := Aside0.mk (show gB ≠ gE by rw [hg_]; exact Nat.ne_of_gt (blk_lt S_gE.out)); have n_S_gA := Aside0.mk (blk_below S_gA.out hb_); have n_S_gF := Aside0.mk (blk_below S_gF.out hb_); have n_S_gE := Aside0.mk (blk_below S_gE.out hb_); have n_HB := Aside0.mk (below_step HB.out hb_); clear S_gA S_gF S_gE HB; have S_gA := n_S_gA; have S_gF := n_S_gF; have S_gE := n_S_gE; have HB := n_HB; clear n_S_gA n_S_gF n_S_gE n_HB; have S_gB := Aside0.mk hbox_; clear hg_ hbox_ hb_) | ((with_reducible refine gate_store (t := 41) (p := 7) rfl ?_); refine Arr.store_all (T := 41) (p := 7) (g := gB) (old := #[.int .u8 0, .int .u8 0, .int .u8 0, .int .u8 0, .int .u8 0, .int .u8 0, .int .u8 0, .int .u8 0, .int .u8 0, .int .u8 0, .int .u8 0, .int .u8 0, .int .u8 0, .int .u8 0, .int .u8 0, .int .u8 0]) (cs := #[.int .u8 0, .int .u8 0, .int .u8 0, .int .u8 0, .int .u8 0, .int .u8 0, .int .u8 0, .int .u8 0, .int .u8 0, .int .u8 0, .int .u8 0, .int .u8 0, .int .u8 0, .int .u8 0, .int .u8 0, .int .u8 0]) (t := 41) rfl rfl rfl rfl rfl S_gB.out (by kernel_rfl) (by first | rfl | (simp)) (by first | rfl | simp [Value.oneCell']) ?_; intro w2 hs_ hk_ hB_; have n_S_gA := Aside0.mk ((hk_ _ N_gA_gB.out).trans S_gA.out); have n_S_gF := Aside0.mk ((hk_ _ N_gF_gB.out).trans S_gF.out); have n_S_gE := Aside0.mk ((hk_ _ N_gE_gB.out).trans S_gE.out); have n_S_gB := Aside0.mk (hs_); have n_HB := Aside0.mk (hB_ _ _ HB.out G_gB.out); clear S_gA S_gF S_gE S_gB HB; have S_gA := n_S_gA; have S_gF := n_S_gF; have S_gE := n_S_gE; have S_gB := n_S_gB; have HB := n_HB; clear n_S_gA n_S_gF n_S_gE n_S_gB n_HB; clear hs_ hk_ hB_) | ((with_reducible refine gate_dst (N := 13) rfl ?_); refine Arr.load_all rfl rfl rfl rfl S_gA.out hu34 rfl (by kernel_rfl) ?_) | (go_at_call 55; (with_reducible refine (HQ.out _).mono ?_); rintro e w3 ⟨rfl, hb_⟩; (try refine ⟨_, rfl, ?_⟩); have n_S_gA := Aside0.mk (blk_below S_gA.out hb_); have n_S_gF := Aside0.mk (blk_below S_gF.out hb_); have n_S_gE := Aside0.mk (blk_below S_gE.out hb_); have n_S_gB := Aside0.mk (blk_below S_gB.out hb_); have n_HB := Aside0.mk (below_step HB.out hb_); clear S_gA S_gF S_gE S_gB HB; have S_gA := n_S_gA; have S_gF := n_S_gF; have S_gE := n_S_gE; have S_gB := n_S_gB; have HB := n_HB; clear n_S_gA n_S_gF n_S_gE n_S_gB n_HB; clear hb_) | (go_at_call 18; (with_reducible refine (HV.out _ (Kd.C_below HR.out HB.out)).mono ?_); rintro e w4 ⟨rfl, hb_⟩; (try refine ⟨_, rfl, ?_⟩); have n_S_gA := Aside0.mk (blk_below S_gA.out hb_); have n_S_gF := Aside0.mk (blk_below S_gF.out hb_); have n_S_gE := Aside0.mk (blk_below S_gE.out hb_); have n_S_gB := Aside0.mk (blk_below S_gB.out hb_); have n_HB := Aside0.mk (below_step HB.out hb_); clear S_gA S_gF S_gE S_gB HB; have S_gA := n_S_gA; have S_gF := n_S_gF; have S_gE := n_S_gE; have S_gB := n_S_gB; have HB := n_HB; clear n_S_gA n_S_gF n_S_gE n_S_gB n_HB; clear hb_) | ((with_reducible refine gate_dst (N := 26) rfl ?_); refine Arr.load_all rfl rfl rfl rfl S_gB.out hu41 rfl (by kernel_rfl) ?_) | ((with_reducible refine gate_store (t := 41) (p := 4) rfl ?_); refine Arr.store_all (T := 41) (p := 4) (g := gF) (old := #[.int .u8 0, .int .u8 0, .int .u8 0, .int .u8 0, .int .u8 0, .int .u8 0, .int .u8 0, .int .u8 0, .int .u8 0, .int .u8 0, .int .u8 0, .int .u8 0, .int .u8 0, .int .u8 0, .int .u8 0, .int .u8 0]) (cs := #[.int .u8 0, .int .u8 0, .int .u8 0, .int .u8 0, .int .u8 0, .int .u8 0, .int .u8 0, .int .u8 0, .int .u8 0, .int .u8 0, .int .u8 0, .int .u8 0, .int .u8 0, .int .u8 0, .int .u8 0, .int .u8 0]) (t := 41) rfl rfl rfl rfl rfl S_gF.out (by kernel_rfl) (by first | rfl | (simp)) (by first | rfl | simp [Value.oneCell']) ?_; intro w5 hs_ hk_ hB_; have n_S_gA := Aside0.mk ((hk_ _ N_gA_gF.out).trans S_gA.out); have n_S_gF := Aside0.mk (hs_); have n_S_gE := Aside0.mk ((hk_ _ N_gE_gF.out).trans S_gE.out); have n_S_gB := Aside0.mk ((hk_ _ N_gB_gF.out).trans S_gB.out); have n_HB := Aside0.mk (hB_ _ _ HB.out G_gF.out); clear S_gA S_gF S_gE S_gB HB; have S_gA := n_S_gA; have S_gF := n_S_gF; have S_gE := n_S_gE; have S_gB := n_S_gB; have HB := n_HB; clear n_S_gA n_S_gF n_S_gE n_S_gB n_HB; clear hs_ hk_ hB_) | ((with_reducible refine gate_store (t := 34) (p := 5) rfl ?_); refine Arr.store_all (T := 34) (p := 5) (g := gE) (old := #[.int .i64 0, .int .i64 0]) (cs := #[.int .i64 0, .int .i64 0]) (t := 34) rfl rfl rfl rfl rfl S_gE.out (by kernel_rfl) (by first | rfl | (simp)) (by first | rfl | simp [Value.oneCell']) ?_; intro w6 hs_ hk_ hB_; have n_S_gA := Aside0.mk ((hk_ _ N_gA_gE.out).trans S_gA.out); have n_S_gF := Aside0.mk ((hk_ _ N_gF_gE.out).trans S_gF.out); have n_S_gE := Aside0.mk (hs_); have n_S_gB := Aside0.mk ((hk_ _ N_gB_gE.out).trans S_gB.out); have n_HB := Aside0.mk (hB_ _ _ HB.out G_gE.out); clear S_gA S_gF S_gE S_gB HB; have S_gA := n_S_gA; have S_gF := n_S_gF; have S_gE := n_S_gE; have S_gB := n_S_gB; have HB := n_HB; clear n_S_gA n_S_gF n_S_gE n_S_gB n_HB; clear hs_ hk_ hB_))
      refine bodyPost_ret (results_list (rs := [.cell 4 41, .cell 5 34, .tmp 6]) rfl (by simp) (.cell gF 41 #[.int .u8 0, .int .u8 0, .int .u8 0, .int .u8 0, .int .u8 0, .int .u8 0, .int .u8 0, .int .u8 0, .int .u8 0, .int .u8 0, .int .u8 0, .int .u8 0, .int .u8 0, .int .u8 0, .int .u8 0, .int .u8 0] (0, 0) _ rfl S_gF.out Try.underlying41 rfl (by kernel_rfl) (.cell gE 34 #[.int .i64 0, .int .i64 0] (0, 0) _ rfl S_gE.out Try.underlying34 rfl (by kernel_rfl) (.tmp .nil)))) rfl ?_
      exact ⟨rfl, HB.out⟩
    | true =>
      have c2 : (l1.length == 30) = false := by simp at c ⊢; exact c
      have c2i : ((l1.length : Int) == 30) = false := by simp at c ⊢; omega
      have c3 : ((l1.length : Int) != 30) = true := by simp at c ⊢; omega
      clear c
      go_enter Try.func39, Try.ntmps39
      go_wp2_with (first | ((with_reducible refine gate_dst (N := 2) rfl ?_); refine box_event ?hg (N := 2) ?hd (cs := #[.int .i64 a0_0, .int .i64 a0_1]) (t := 34) ?hr ?_; (case hd => rfl); (case hg => rfl); (case hr => first | (go_simp; done) | (go_simp; rfl)); intro gA hg_ wgA hbox_ hb_; have G_gA := Aside0.mk (show w.heap.size ≤ gA by rw [hg_]; exact below_size HB.out); have n_HB := Aside0.mk (below_step HB.out hb_); clear HB; have HB := n_HB; clear n_HB; have S_gA := Aside0.mk hbox_; clear hg_ hbox_ hb_) | ((with_reducible refine gate_dst (N := 4) rfl ?_); refine box_event ?hg (N := 4) ?hd (cs := #[.int .u8 0, .int .u8 0, .int .u8 0, .int .u8 0, .int .u8 0, .int .u8 0, .int .u8 0, .int .u8 0, .int .u8 0, .int .u8 0, .int .u8 0, .int .u8 0, .int .u8 0, .int .u8 0, .int .u8 0, .int .u8 0]) (t := 41) ?hr ?_; (case hd => rfl); (case hg => rfl); (case hr => first | (go_simp; done) | (go_simp; rfl)); intro gF hg_ wgF hbox_ hb_; have G_gF := Aside0.mk (show w.heap.size ≤ gF by rw [hg_]; exact below_size HB.out); have N_gA_gF := Aside0.mk (show gA ≠ gF by rw [hg_]; exact Nat.ne_of_lt (blk_lt S_gA.out)); have N_gF_gA := Aside0.mk (show gF ≠ gA by rw [hg_]; exact Nat.ne_of_gt (blk_lt S_gA.out)); have n_S_gA := Aside0.mk (blk_below S_gA.out hb_); have n_HB := Aside0.mk (below_step HB.out hb_); clear S_gA HB; have S_gA := n_S_gA; have HB := n_HB; clear n_S_gA n_HB; have S_gF := Aside0.mk hbox_; clear hg_ hbox_ hb_) | ((with_reducible refine gate_dst (N := 5) rfl ?_); refine box_event ?hg (N := 5) ?hd (cs := #[.int .i64 0, .int .i64 0]) (t := 34) ?hr ?_; (case hd => rfl); (case hg => rfl); (case hr => first | (go_simp; done) | (go_simp; rfl)); intro gE hg_ wgE hbox_ hb_; have G_gE := Aside0.mk (show w.heap.size ≤ gE by rw [hg_]; exact below_size HB.out); have N_gA_gE := Aside0.mk (show gA ≠ gE by rw [hg_]; exact Nat.ne_of_lt (blk_lt S_gA.out)); have N_gE_gA := Aside0.mk (show gE ≠ gA by rw [hg_]; exact Nat.ne_of_gt (blk_lt S_gA.out)); have N_gF_gE := Aside0.mk (show gF ≠ gE by rw [hg_]; exact Nat.ne_of_lt (blk_lt S_gF.out)); have N_gE_gF := Aside0.mk (show gE ≠ gF by rw [hg_]; exact Nat.ne_of_gt (blk_lt S_gF.out)); have n_S_gA := Aside0.mk (blk_below S_gA.out hb_); have n_S_gF := Aside0.mk (blk_below S_gF.out hb_); have n_HB := Aside0.mk (below_step HB.out hb_); clear S_gA S_gF HB; have S_gA := n_S_gA; have S_gF := n_S_gF; have HB := n_HB; clear n_S_gA n_S_gF n_HB; have S_gE := Aside0.mk hbox_; clear hg_ hbox_ hb_) | ((with_reducible refine gate_dst (N := 7) rfl ?_); refine box_event ?hg (N := 7) ?hd (cs := #[.int .u8 0, .int .u8 0, .int .u8 0, .int .u8 0, .int .u8 0, .int .u8 0, .int .u8 0, .int .u8 0, .int .u8 0, .int .u8 0, .int .u8 0, .int .u8 0, .int .u8 0, .int .u8 0, .int .u8 0, .int .u8 0]) (t := 41) ?hr ?_; (case hd => rfl); (case hg => rfl); (case hr => first | (go_simp; done) | (go_simp; rfl)); intro gB hg_ wgB hbox_ hb_; have G_gB := Aside0.mk (show w.heap.size ≤ gB by rw [hg_]; exact below_size HB.out); have N_gA_gB := Aside0.mk (show gA ≠ gB by rw [hg_]; exact Nat.ne_of_lt (blk_lt S_gA.out)); have N_gB_gA := Aside0.mk (show gB ≠ gA by rw [hg_]; exact Nat.ne_of_gt (blk_lt S_gA.out)); have N_gF_gB := Aside0.mk (show gF ≠ gB by rw [hg_]; exact Nat.ne_of_lt (blk_lt S_gF.out)); have N_gB_gF := Aside0.mk (show gB ≠ gF by rw [hg_]; exact Nat.ne_of_gt (blk_lt S_gF.out)); have N_gE_gB := Aside0.mk (show gE ≠ gB by rw [hg_]; exact Nat.ne_of_lt (blk_lt S_gE.out)); have N_gB_gE := Aside0.mk (show gB ≠ gE by rw [hg_]; exact Nat.ne_of_gt (blk_lt S_gE.out)); have n_S_gA := Aside0.mk (blk_below S_gA.out hb_); have n_S_gF := Aside0.mk (blk_below S_gF.out hb_); have n_S_gE := Aside0.mk (blk_below S_gE.out hb_); have n_HB := Aside0.mk (below_step HB.out hb_); clear S_gA S_gF S_gE HB; have S_gA := n_S_gA; have S_gF := n_S_gF; have S_gE := n_S_gE; have HB := n_HB; clear n_S_gA n_S_gF n_S_gE n_HB; have S_gB := Aside0.mk hbox_; clear hg_ hbox_ hb_) | ((with_reducible refine gate_store (t := 41) (p := 7) rfl ?_); refine Arr.store_all (T := 41) (p := 7) (g := gB) (old := #[.int .u8 0, .int .u8 0, .int .u8 0, .int .u8 0, .int .u8 0, .int .u8 0, .int .u8 0, .int .u8 0, .int .u8 0, .int .u8 0, .int .u8 0, .int .u8 0, .int .u8 0, .int .u8 0, .int .u8 0, .int .u8 0]) (cs := #[.int .u8 0, .int .u8 0, .int .u8 0, .int .u8 0, .int .u8 0, .int .u8 0, .int .u8 0, .int .u8 0, .int .u8 0, .int .u8 0, .int .u8 0, .int .u8 0, .int .u8 0, .int .u8 0, .int .u8 0, .int .u8 0]) (t := 41) rfl rfl rfl rfl rfl S_gB.out (by kernel_rfl) (by first | rfl | (simp)) (by first | rfl | simp [Value.oneCell']) ?_; intro w2 hs_ hk_ hB_; have n_S_gA := Aside0.mk ((hk_ _ N_gA_gB.out).trans S_gA.out); have n_S_gF := Aside0.mk ((hk_ _ N_gF_gB.out).trans S_gF.out); have n_S_gE := Aside0.mk ((hk_ _ N_gE_gB.out).trans S_gE.out); have n_S_gB := Aside0.mk (hs_); have n_HB := Aside0.mk (hB_ _ _ HB.out G_gB.out); clear S_gA S_gF S_gE S_gB HB; have S_gA := n_S_gA; have S_gF := n_S_gF; have S_gE := n_S_gE; have S_gB := n_S_gB; have HB := n_HB; clear n_S_gA n_S_gF n_S_gE n_S_gB n_HB; clear hs_ hk_ hB_) | ((with_reducible refine gate_dst (N := 13) rfl ?_); refine Arr.load_all rfl rfl rfl rfl S_gA.out hu34 rfl (by kernel_rfl) ?_) | (go_at_call 55; (with_reducible refine (HQ.out _).mono ?_); rintro e w3 ⟨rfl, hb_⟩; (try refine ⟨_, rfl, ?_⟩); have n_S_gA := Aside0.mk (blk_below S_gA.out hb_); have n_S_gF := Aside0.mk (blk_below S_gF.out hb_); have n_S_gE := Aside0.mk (blk_below S_gE.out hb_); have n_S_gB := Aside0.mk (blk_below S_gB.out hb_); have n_HB := Aside0.mk (below_step HB.out hb_); clear S_gA S_gF S_gE S_gB HB; have S_gA := n_S_gA; have S_gF := n_S_gF; have S_gE := n_S_gE; have S_gB := n_S_gB; have HB := n_HB; clear n_S_gA n_S_gF n_S_gE n_S_gB n_HB; clear hb_) | (go_at_call 18; (with_reducible refine (HV.out _ (Kd.C_below HR.out HB.out)).mono ?_); rintro e w4 ⟨rfl, hb_⟩; (try refine ⟨_, rfl, ?_⟩); have n_S_gA := Aside0.mk (blk_below S_gA.out hb_); have n_S_gF := Aside0.mk (blk_below S_gF.out hb_); have n_S_gE := Aside0.mk (blk_below S_gE.out hb_); have n_S_gB := Aside0.mk (blk_below S_gB.out hb_); have n_HB := Aside0.mk (below_step HB.out hb_); clear S_gA S_gF S_gE S_gB HB; have S_gA := n_S_gA; have S_gF := n_S_gF; have S_gE := n_S_gE; have S_gB := n_S_gB; have HB := n_HB; clear n_S_gA n_S_gF n_S_gE n_S_gB n_HB; clear hb_) | ((with_reducible refine gate_dst (N := 26) rfl ?_); refine Arr.load_all rfl rfl rfl rfl S_gB.out hu41 rfl (by kernel_rfl) ?_) | ((with_reducible refine gate_store (t := 41) (p := 4) rfl ?_); refine Arr.store_all (T := 41) (p := 4) (g := gF) (old := #[.int .u8 0, .int .u8 0, .int .u8 0, .int .u8 0, .int .u8 0, .int .u8 0, .int .u8 0, .int .u8 0, .int .u8 0, .int .u8 0, .int .u8 0, .int .u8 0, .int .u8 0, .int .u8 0, .int .u8 0, .int .u8 0]) (cs := #[.int .u8 0, .int .u8 0, .int .u8 0, .int .u8 0, .int .u8 0, .int .u8 0, .int .u8 0, .int .u8 0, .int .u8 0, .int .u8 0, .int .u8 0, .int .u8 0, .int .u8 0, .int .u8 0, .int .u8 0, .int .u8 0]) (t := 41) rfl rfl rfl rfl rfl S_gF.out (by kernel_rfl) (by first | rfl | (simp)) (by first | rfl | simp [Value.oneCell']) ?_; intro w5 hs_ hk_ hB_; have n_S_gA := Aside0.mk ((hk_ _ N_gA_gF.out).trans S_gA.out); have n_S_gF := Aside0.mk (hs_); have n_S_gE := Aside0.mk ((hk_ _ N_gE_gF.out).trans S_gE.out); have n_S_gB := Aside0.mk ((hk_ _ N_gB_gF.out).trans S_gB.out); have n_HB := Aside0.mk (hB_ _ _ HB.out G_gF.out); clear S_gA S_gF S_gE S_gB HB; have S_gA := n_S_gA; have S_gF := n_S_gF; have S_gE := n_S_gE; have S_gB := n_S_gB; have HB := n_HB; clear n_S_gA n_S_gF n_S_gE n_S_gB n_HB; clear hs_ hk_ hB_) | ((with_reducible refine gate_store (t := 34) (p := 5) rfl ?_); refine Arr.store_all (T := 34) (p := 5) (g := gE) (old := #[.int .i64 0, .int .i64 0]) (cs := #[.int .i64 0, .int .i64 0]) (t := 34) rfl rfl rfl rfl rfl S_gE.out (by kernel_rfl) (by first | rfl | (simp)) (by first | rfl | simp [Value.oneCell']) ?_; intro w6 hs_ hk_ hB_; have n_S_gA := Aside0.mk ((hk_ _ N_gA_gE.out).trans S_gA.out); have n_S_gF := Aside0.mk ((hk_ _ N_gF_gE.out).trans S_gF.out); have n_S_gE := Aside0.mk (hs_); have n_S_gB := Aside0.mk ((hk_ _ N_gB_gE.out).trans S_gB.out); have n_HB := Aside0.mk (hB_ _ _ HB.out G_gE.out); clear S_gA S_gF S_gE S_gB HB; have S_gA := n_S_gA; have S_gF := n_S_gF; have S_gE := n_S_gE; have S_gB := n_S_gB; have HB := n_HB; clear n_S_gA n_S_gF n_S_gE n_S_gB n_HB; clear hs_ hk_ hB_))
      refine bodyPost_ret (results_list (rs := [.cell 4 41, .cell 5 34, .tmp 6]) rfl (by simp) (.cell gF 41 #[.int .u8 0, .int .u8 0, .int .u8 0, .int .u8 0, .int .u8 0, .int .u8 0, .int .u8 0, .int .u8 0, .int .u8 0, .int .u8 0, .int .u8 0, .int .u8 0, .int .u8 0, .int .u8 0, .int .u8 0, .int .u8 0] (0, 0) _ rfl S_gF.out Try.underlying41 rfl (by kernel_rfl) (.cell gE 34 #[.int .i64 0, .int .i64 0] (0, 0) _ rfl S_gE.out Try.underlying34 rfl (by kernel_rfl) (.tmp .nil)))) rfl ?_
      exact ⟨rfl, HB.out⟩
  obtain ⟨rfl, cl⟩ := c
  rw [if_pos ⟨rfl, cl⟩] at H
  obtain ⟨⟨n, x2, x3, x4⟩, A20, H⟩ := Option.bind_eq_some_iff.mp H
  have A2 := Aside0.mk A20
  clear A20
  replace H : (if 30 ≤ n.length then some (spec_FrameOf.b0 a0_1, spec_FrameOf.bt n 0, spec_FrameOf.bt n 1, spec_FrameOf.bt n 2, spec_FrameOf.bt n 3, spec_FrameOf.bt n 4, spec_FrameOf.bt n 5, spec_FrameOf.bt n 6, spec_FrameOf.bt n 7, spec_FrameOf.bt n 8, spec_FrameOf.bt n 9, spec_FrameOf.bt n 10, spec_FrameOf.bt n 11, spec_FrameOf.bt n 12, spec_FrameOf.bt n 13, spec_FrameOf.bt n 14, x2, x3, true) else none) = some (r1, r2, r3, r4, r5, r6, r7, r8, r9, r10, r11, r12, r13, r14, r15, r16, r17, r18, r19) := H
  by_cases cn : 30 ≤ n.length
  case neg => rw [if_neg cn] at H; cases H
  rw [if_pos cn] at H
  simp only [Option.some.injEq, Prod.mk.injEq] at H
  obtain ⟨rfl, rfl, rfl, rfl, rfl, rfl, rfl, rfl, rfl, rfl, rfl, rfl, rfl, rfl, rfl, rfl, rfl, rfl, rfl⟩ := H
  have CN := Aside0.mk cn
  clear cn
  have c2 : (l1.length == 30) = true := by simp; exact cl
  have c2i : ((l1.length : Int) == 30) = true := by simp; omega
  have c3 : ((l1.length : Int) != 30) = false := by simp; omega
  clear cl
  obtain ⟨mf, hmf⟩ : ∃ mf, mf = spec_FrameOf.b0 a0_1 :: (List.range 15).map (fun (j : Nat) => spec_FrameOf.bt n (j : Int)) := ⟨_, rfl⟩
  rw [show ([spec_FrameOf.b0 a0_1, spec_FrameOf.bt n 0, spec_FrameOf.bt n 1, spec_FrameOf.bt n 2, spec_FrameOf.bt n 3, spec_FrameOf.bt n 4, spec_FrameOf.bt n 5, spec_FrameOf.bt n 6, spec_FrameOf.bt n 7, spec_FrameOf.bt n 8, spec_FrameOf.bt n 9, spec_FrameOf.bt n 10, spec_FrameOf.bt n 11, spec_FrameOf.bt n 12, spec_FrameOf.bt n 13, spec_FrameOf.bt n 14] : List Int) = mf from by rw [hmf]; rfl]
  have HM := Aside0.mk (show mf.length = 16 ∧ mf.take 1 = [spec_FrameOf.b0 a0_1] ∧ ∀ j : Nat, j < 15 → mf.getD (j + 1) 0 = spec_FrameOf.bt n (j : Int) by
    rw [hmf]
    refine ⟨by simp, by simp, fun j hj => ?_⟩
    simp [List.getD_eq_getElem?_getD, List.getElem?_range, hj])
  clear hmf
  go_enter Try.func39, Try.ntmps39
  go_upto_region 5 with (first | ((with_reducible refine gate_dst (N := 2) rfl ?_); refine box_event ?hg (N := 2) ?hd (cs := #[.int .i64 a0_0, .int .i64 a0_1]) (t := 34) ?hr ?_; (case hd => rfl); (case hg => rfl); (case hr => first | (go_simp; done) | (go_simp; rfl)); intro gA hg_ wgA hbox_ hb_; have G_gA := Aside0.mk (show w.heap.size ≤ gA by rw [hg_]; exact below_size HB.out); have n_HB := Aside0.mk (below_step HB.out hb_); clear HB; have HB := n_HB; clear n_HB; have S_gA := Aside0.mk hbox_; clear hg_ hbox_ hb_) | ((with_reducible refine gate_dst (N := 4) rfl ?_); refine box_event ?hg (N := 4) ?hd (cs := #[.int .u8 0, .int .u8 0, .int .u8 0, .int .u8 0, .int .u8 0, .int .u8 0, .int .u8 0, .int .u8 0, .int .u8 0, .int .u8 0, .int .u8 0, .int .u8 0, .int .u8 0, .int .u8 0, .int .u8 0, .int .u8 0]) (t := 41) ?hr ?_; (case hd => rfl); (case hg => rfl); (case hr => first | (go_simp; done) | (go_simp; rfl)); intro gF hg_ wgF hbox_ hb_; have G_gF := Aside0.mk (show w.heap.size ≤ gF by rw [hg_]; exact below_size HB.out); have N_gA_gF := Aside0.mk (show gA ≠ gF by rw [hg_]; exact Nat.ne_of_lt (blk_lt S_gA.out)); have N_gF_gA := Aside0.mk (show gF ≠ gA by rw [hg_]; exact Nat.ne_of_gt (blk_lt S_gA.out)); have n_S_gA := Aside0.mk (blk_below S_gA.out hb_); have n_HB := Aside0.mk (below_step HB.out hb_); clear S_gA HB; have S_gA := n_S_gA; have HB := n_HB; clear n_S_gA n_HB; have S_gF := Aside0.mk hbox_; clear hg_ hbox_ hb_) | ((with_reducible refine gate_dst (N := 5) rfl ?_); refine box_event ?hg (N := 5) ?hd (cs := #[.int .i64 0, .int .i64 0]) (t := 34) ?hr ?_; (case hd => rfl); (case hg => rfl); (case hr => first | (go_simp; done) | (go_simp; rfl)); intro gE hg_ wgE hbox_ hb_; have G_gE := Aside0.mk (show w.heap.size ≤ gE by rw [hg_]; exact below_size HB.out); have N_gA_gE := Aside0.mk (show gA ≠ gE by rw [hg_]; exact Nat.ne_of_lt (blk_lt S_gA.out)); have N_gE_gA := Aside0.mk (show gE ≠ gA by rw [hg_]; exact Nat.ne_of_gt (blk_lt S_gA.out)); have N_gF_gE := Aside0.mk (show gF ≠ gE by rw [hg_]; exact Nat.ne_of_lt (blk_lt S_gF.out)); have N_gE_gF := Aside0.mk (show gE ≠ gF by rw [hg_]; exact Nat.ne_of_gt (blk_lt S_gF.out)); have n_S_gA := Aside0.mk (blk_below S_gA.out hb_); have n_S_gF := Aside0.mk (blk_below S_gF.out hb_); have n_HB := Aside0.mk (below_step HB.out hb_); clear S_gA S_gF HB; have S_gA := n_S_gA; have S_gF := n_S_gF; have HB := n_HB; clear n_S_gA n_S_gF n_HB; have S_gE := Aside0.mk hbox_; clear hg_ hbox_ hb_) | ((with_reducible refine gate_dst (N := 7) rfl ?_); refine box_event ?hg (N := 7) ?hd (cs := #[.int .u8 0, .int .u8 0, .int .u8 0, .int .u8 0, .int .u8 0, .int .u8 0, .int .u8 0, .int .u8 0, .int .u8 0, .int .u8 0, .int .u8 0, .int .u8 0, .int .u8 0, .int .u8 0, .int .u8 0, .int .u8 0]) (t := 41) ?hr ?_; (case hd => rfl); (case hg => rfl); (case hr => first | (go_simp; done) | (go_simp; rfl)); intro gB hg_ wgB hbox_ hb_; have G_gB := Aside0.mk (show w.heap.size ≤ gB by rw [hg_]; exact below_size HB.out); have N_gA_gB := Aside0.mk (show gA ≠ gB by rw [hg_]; exact Nat.ne_of_lt (blk_lt S_gA.out)); have N_gB_gA := Aside0.mk (show gB ≠ gA by rw [hg_]; exact Nat.ne_of_gt (blk_lt S_gA.out)); have N_gF_gB := Aside0.mk (show gF ≠ gB by rw [hg_]; exact Nat.ne_of_lt (blk_lt S_gF.out)); have N_gB_gF := Aside0.mk (show gB ≠ gF by rw [hg_]; exact Nat.ne_of_gt (blk_lt S_gF.out)); have N_gE_gB := Aside0.mk (show gE ≠ gB by rw [hg_]; exact Nat.ne_of_lt (blk_lt S_gE.out)); have N_gB_gE := Aside0.mk (show gB ≠ gE by rw [hg_]; exact Nat.ne_of_gt (blk_lt S_gE.out)); have n_S_gA := Aside0.mk (blk_below S_gA.out hb_); have n_S_gF := Aside0.mk (blk_below S_gF.out hb_); have n_S_gE := Aside0.mk (blk_below S_gE.out hb_); have n_HB := Aside0.mk (below_step HB.out hb_); clear S_gA S_gF S_gE HB; have S_gA := n_S_gA; have S_gF := n_S_gF; have S_gE := n_S_gE; have HB := n_HB; clear n_S_gA n_S_gF n_S_gE n_HB; have S_gB := Aside0.mk hbox_; clear hg_ hbox_ hb_) | ((with_reducible refine gate_store (t := 41) (p := 7) rfl ?_); refine Arr.store_all (T := 41) (p := 7) (g := gB) (old := #[.int .u8 0, .int .u8 0, .int .u8 0, .int .u8 0, .int .u8 0, .int .u8 0, .int .u8 0, .int .u8 0, .int .u8 0, .int .u8 0, .int .u8 0, .int .u8 0, .int .u8 0, .int .u8 0, .int .u8 0, .int .u8 0]) (cs := #[.int .u8 0, .int .u8 0, .int .u8 0, .int .u8 0, .int .u8 0, .int .u8 0, .int .u8 0, .int .u8 0, .int .u8 0, .int .u8 0, .int .u8 0, .int .u8 0, .int .u8 0, .int .u8 0, .int .u8 0, .int .u8 0]) (t := 41) rfl rfl rfl rfl rfl S_gB.out (by kernel_rfl) (by first | rfl | (simp)) (by first | rfl | simp [Value.oneCell']) ?_; intro w2 hs_ hk_ hB_; have n_S_gA := Aside0.mk ((hk_ _ N_gA_gB.out).trans S_gA.out); have n_S_gF := Aside0.mk ((hk_ _ N_gF_gB.out).trans S_gF.out); have n_S_gE := Aside0.mk ((hk_ _ N_gE_gB.out).trans S_gE.out); have n_S_gB := Aside0.mk (hs_); have n_HB := Aside0.mk (hB_ _ _ HB.out G_gB.out); clear S_gA S_gF S_gE S_gB HB; have S_gA := n_S_gA; have S_gF := n_S_gF; have S_gE := n_S_gE; have S_gB := n_S_gB; have HB := n_HB; clear n_S_gA n_S_gF n_S_gE n_S_gB n_HB; clear hs_ hk_ hB_) | ((with_reducible refine gate_dst (N := 13) rfl ?_); refine Arr.load_all rfl rfl rfl rfl S_gA.out hu34 rfl (by kernel_rfl) ?_) | (go_at_call 55; (with_reducible refine (HQ.out _).mono ?_); rintro e w3 ⟨rfl, hb_⟩; (try refine ⟨_, rfl, ?_⟩); have n_S_gA := Aside0.mk (blk_below S_gA.out hb_); have n_S_gF := Aside0.mk (blk_below S_gF.out hb_); have n_S_gE := Aside0.mk (blk_below S_gE.out hb_); have n_S_gB := Aside0.mk (blk_below S_gB.out hb_); have n_HB := Aside0.mk (below_step HB.out hb_); clear S_gA S_gF S_gE S_gB HB; have S_gA := n_S_gA; have S_gF := n_S_gF; have S_gE := n_S_gE; have S_gB := n_S_gB; have HB := n_HB; clear n_S_gA n_S_gF n_S_gE n_S_gB n_HB; clear hb_) | (go_at_call 18; (with_reducible refine (HV.out _ (Kd.C_below HR.out HB.out)).mono ?_); rintro e w4 ⟨rfl, hb_⟩; (try refine ⟨_, rfl, ?_⟩); have n_S_gA := Aside0.mk (blk_below S_gA.out hb_); have n_S_gF := Aside0.mk (blk_below S_gF.out hb_); have n_S_gE := Aside0.mk (blk_below S_gE.out hb_); have n_S_gB := Aside0.mk (blk_below S_gB.out hb_); have n_HB := Aside0.mk (below_step HB.out hb_); clear S_gA S_gF S_gE S_gB HB; have S_gA := n_S_gA; have S_gF := n_S_gF; have S_gE := n_S_gE; have S_gB := n_S_gB; have HB := n_HB; clear n_S_gA n_S_gF n_S_gE n_S_gB n_HB; clear hb_) | ((with_reducible refine gate_dst (N := 29) rfl ?_); refine Arr.load_all rfl rfl rfl rfl S_gA.out hu34 rfl (by kernel_rfl) ?_) | (go_at_call 37; (with_reducible refine (spec_Squeeze.calls k a0_0 a0_1 A1 c1 l1 _ _ _ _ _ (Kd.C_below HR.out HB.out) HC.out A2.out).mono ?_); rintro e w5 ⟨v9, rfl, hR_, hb_⟩; (try refine ⟨_, rfl, ?_⟩); have HO0 := Aside0.mk (Kd.R_lower hR_ (below_size HB.out)); have n_S_gA := Aside0.mk (blk_below S_gA.out hb_); have n_S_gF := Aside0.mk (blk_below S_gF.out hb_); have n_S_gE := Aside0.mk (blk_below S_gE.out hb_); have n_S_gB := Aside0.mk (blk_below S_gB.out hb_); have n_HB := Aside0.mk (below_step HB.out hb_); clear S_gA S_gF S_gE S_gB HB; have S_gA := n_S_gA; have S_gF := n_S_gF; have S_gE := n_S_gE; have S_gB := n_S_gB; have HB := n_HB; clear n_S_gA n_S_gF n_S_gE n_S_gB n_HB; have HO := HO0; clear HO0 hR_ hb_) | ((with_reducible refine gate_dst (N := 9) rfl ?_); refine box_event ?hg (N := 9) ?hd (cs := #[.int .i64 0, .int .i64 0]) (t := 34) ?hr ?_; (case hd => rfl); (case hg => rfl); (case hr => first | (go_simp; done) | (go_simp; rfl)); intro gH hg_ wgH hbox_ hb_; have G_gH := Aside0.mk (show w.heap.size ≤ gH by rw [hg_]; exact below_size HB.out); have N_gA_gH := Aside0.mk (show gA ≠ gH by rw [hg_]; exact Nat.ne_of_lt (blk_lt S_gA.out)); have N_gH_gA := Aside0.mk (show gH ≠ gA by rw [hg_]; exact Nat.ne_of_gt (blk_lt S_gA.out)); have N_gF_gH := Aside0.mk (show gF ≠ gH by rw [hg_]; exact Nat.ne_of_lt (blk_lt S_gF.out)); have N_gH_gF := Aside0.mk (show gH ≠ gF by rw [hg_]; exact Nat.ne_of_gt (blk_lt S_gF.out)); have N_gE_gH := Aside0.mk (show gE ≠ gH by rw [hg_]; exact Nat.ne_of_lt (blk_lt S_gE.out)); have N_gH_gE := Aside0.mk (show gH ≠ gE by rw [hg_]; exact Nat.ne_of_gt (blk_lt S_gE.out)); have N_gB_gH := Aside0.mk (show gB ≠ gH by rw [hg_]; exact Nat.ne_of_lt (blk_lt S_gB.out)); have N_gH_gB := Aside0.mk (show gH ≠ gB by rw [hg_]; exact Nat.ne_of_gt (blk_lt S_gB.out)); have n_S_gA := Aside0.mk (blk_below S_gA.out hb_); have n_S_gF := Aside0.mk (blk_below S_gF.out hb_); have n_S_gE := Aside0.mk (blk_below S_gE.out hb_); have n_S_gB := Aside0.mk (blk_below S_gB.out hb_); have n_HO := Aside0.mk (Kd.R_below HO.out hb_); have n_HB := Aside0.mk (below_step HB.out hb_); clear S_gA S_gF S_gE S_gB HO HB; have S_gA := n_S_gA; have S_gF := n_S_gF; have S_gE := n_S_gE; have S_gB := n_S_gB; have HO := n_HO; have HB := n_HB; clear n_S_gA n_S_gF n_S_gE n_S_gB n_HO n_HB; have S_gH := Aside0.mk hbox_; clear hg_ hbox_ hb_) | ((with_reducible refine gate_store (t := 34) (p := 9) rfl ?_); refine Arr.store_all (T := 34) (p := 9) (g := gH) (old := #[.int .i64 0, .int .i64 0]) (cs := #[.int .i64 x2, .int .i64 x3]) (t := 34) rfl rfl rfl rfl rfl S_gH.out (by kernel_rfl) (by first | rfl | (simp)) (by first | rfl | simp [Value.oneCell']) ?_; intro w6 hs_ hk_ hB_; have n_S_gA := Aside0.mk ((hk_ _ N_gA_gH.out).trans S_gA.out); have n_S_gF := Aside0.mk ((hk_ _ N_gF_gH.out).trans S_gF.out); have n_S_gE := Aside0.mk ((hk_ _ N_gE_gH.out).trans S_gE.out); have n_S_gB := Aside0.mk ((hk_ _ N_gB_gH.out).trans S_gB.out); have n_S_gH := Aside0.mk (hs_); have n_HO := Aside0.mk (Kd.R_mono (Kd.R_step (Kd.R_types HO.out S_gH.out (by decide)) (fun k hk _ => hk_ k hk.2)) (fun _ hk => hk.1)); have n_HB := Aside0.mk (hB_ _ _ HB.out G_gH.out); clear S_gA S_gF S_gE S_gB S_gH HO HB; have S_gA := n_S_gA; have S_gF := n_S_gF; have S_gE := n_S_gE; have S_gB := n_S_gB; have S_gH := n_S_gH; have HO := n_HO; have HB := n_HB; clear n_S_gA n_S_gF n_S_gE n_S_gB n_S_gH n_HO n_HB; clear hs_ hk_ hB_))
  have hcA := (blk_cell S_gA.out 1).trans (show (#[Value.int .i64 a0_0, Value.int .i64 a0_1] : Array Value)[1]? = some (.int .i64 a0_1) from rfl)
  have hcB := (blk_cell S_gB.out 0).trans (show (#[.int .u8 0, .int .u8 0, .int .u8 0, .int .u8 0, .int .u8 0, .int .u8 0, .int .u8 0, .int .u8 0, .int .u8 0, .int .u8 0, .int .u8 0, .int .u8 0, .int .u8 0, .int .u8 0, .int .u8 0, .int .u8 0] : Array Value)[0]? = some (.int .u8 0) from rfl)
  have hfB := blk_frozen S_gB.out 0
  obtain ⟨A7, c7, rfl, hle, hC⟩ := Kd.R_reads HO.out
  obtain ⟨ad7, e7, _⟩ := Kd.at_int hC 0 (by decide) (by have := CN.out; omega)
  cases e7
  clear hle hC
  go_wp2
  have S0 := Aside0.mk (show (w6.setCell ⟨gB, 0, none⟩ (.int .u8 (spec_FrameOf.b0 a0_1))).heap[gB]? = some (.cells (Arr.u8s (mf.take (0 + 1) ++ List.replicate (16 - (0 + 1)) 0)) 41 (0, 0)) by rw [HM.out.2.1]; exact blk_put S_gB.out 0 _ rfl)
  have n_S_gF := Aside0.mk (Arr.blk_other (j := 0) (v := .int .u8 (spec_FrameOf.b0 a0_1)) S_gF.out N_gB_gF.out)
  have n_S_gE := Aside0.mk (Arr.blk_other (j := 0) (v := .int .u8 (spec_FrameOf.b0 a0_1)) S_gE.out N_gB_gE.out)
  have n_S_gH := Aside0.mk (Arr.blk_other (j := 0) (v := .int .u8 (spec_FrameOf.b0 a0_1)) S_gH.out N_gB_gH.out)
  have n_HO := Aside0.mk (Kd.R_set HO.out S_gB.out (by decide) 0 (.int .u8 (spec_FrameOf.b0 a0_1)))
  have n_HB := Aside0.mk (below_set (j := 0) (v := .int .u8 (spec_FrameOf.b0 a0_1)) HB.out G_gB.out)
  clear S_gF S_gE S_gH HO HB
  have S_gF := n_S_gF
  have S_gE := n_S_gE
  have S_gH := n_S_gH
  have HO := n_HO
  have HB := n_HB
  clear n_S_gF n_S_gE n_S_gH n_HO n_HB hcB hfB
  go_loopg [11] 15 (fun g v11 w' => ∃ (x : Int) (i : Nat), v11 = .int .i64 x ∧ Aside0 (x = (i : Int) ∧ i ≤ 15 ∧ g = 15 - i) ∧ Aside0 (w'.heap[gF]? = some (.cells #[.int .u8 0, .int .u8 0, .int .u8 0, .int .u8 0, .int .u8 0, .int .u8 0, .int .u8 0, .int .u8 0, .int .u8 0, .int .u8 0, .int .u8 0, .int .u8 0, .int .u8 0, .int .u8 0, .int .u8 0, .int .u8 0] 41 (0, 0))) ∧ Aside0 (w'.heap[gE]? = some (.cells #[.int .i64 0, .int .i64 0] 34 (0, 0))) ∧ Aside0 (w'.heap[gH]? = some (.cells #[.int .i64 x2, .int .i64 x3] 34 (0, 0))) ∧ Aside0 (w'.heap[gB]? = some (.cells (Arr.u8s (mf.take (i + 1) ++ List.replicate (16 - (i + 1)) 0)) 41 (0, 0))) ∧ Aside0 (Kd.R (Kd.int .i64) 3 w' w.heap.size (fun _ => True) (.slice (some ad7) n.length c7) n) ∧ Aside0 (Below w.heap.size w w'))
  case atStart => exact ⟨0, 0, rfl, ⟨⟨rfl, by decide, rfl⟩⟩, S_gF, S_gE, S_gH, S0, HO, HB⟩
  case round =>
    clear S_gF S_gE S_gH S_gB S0 HO HB S_gA hcA
    try clear c2
    try clear c2i
    try clear c3
    obtain ⟨x, i, rfl, HI, S_gF, S_gE, S_gH, S_gB, HO, HB⟩ := hrel
    by_cases c : i < 15
    · have hi1 := HI.out.1
      have CX := Aside0.mk (show 0 ≤ x ∧ x < 15 by omega)
      have cb : decide (x < 15) = true := decide_eq_true CX.out.2
      have e1 : wrap64 (2 * x) = 2 * x := by have := CX.out; unfold wrap64; omega
      have e2 : wrap64 (2 * x + 1) = 2 * x + 1 := by have := CX.out; unfold wrap64; omega
      have e3 : wrap64 (x + 1) = x + 1 := by have := CX.out; unfold wrap64; omega
      have e4 : IntKind.i64.wrap (2 * x) = 2 * x := by rw [i64_w]; exact e1
      have e5 : IntKind.i64.wrap (2 * x + 1) = 2 * x + 1 := by rw [i64_w]; exact e2
      have e6 : IntKind.i64.wrap (x + 1) = x + 1 := by rw [i64_w]; exact e3
      have p1 : (0 ≤ 2 * x) = True := eq_true (by have := CX.out; omega)
      have q1 : (2 * x < (n.length : Int)) = True := eq_true (by have := CX.out; have := CN.out; omega)
      have p2 : (0 ≤ 2 * x + 1) = True := eq_true (by have := CX.out; omega)
      have q2 : (2 * x + 1 < (n.length : Int)) = True := eq_true (by have := CX.out; have := CN.out; omega)
      have p3 : (0 ≤ x + 1) = True := eq_true (by have := CX.out; omega)
      have q3 : (x + 1 < 16) = True := eq_true (by have := CX.out; omega)
      have HSET := Aside0.mk (show (mf.take (i + 1) ++ List.replicate (16 - (i + 1)) (0 : Int)).set (x + 1).toNat (spec_FrameOf.bt n x) = mf.take (i + 1 + 1) ++ List.replicate (16 - (i + 1 + 1)) 0 by
        have h1 := spec_FrameOf.set_next mf 16 (i + 1) HM.out.1 (by omega)
        rw [HM.out.2.2 i c] at h1
        rw [hi1, show ((i : Int) + 1).toNat = i + 1 by omega]
        exact h1)
      have LB := Aside0.mk (show (mf.take (i + 1) ++ List.replicate (16 - (i + 1)) (0 : Int)).length = 16 by have := HM.out.1; simp; omega)
      clear hi1
      go_upto_region 9 with (fail)
      · refine wp_region_held_drew (S := fun w' => Kd.C (Kd.int .i64) w' (some ad7) n.length n) rfl (Kd.R_reads' (Kd.R_drew HO.out)).2.2 (fun HS => ?_)
        refine Arl.take (i := 0) (v := ?_) rfl (by kernel_rfl) (by kernel_rfl) (by kernel_rfl) (fun _ _ _ h => h) (by rfl) ?_ HS ?_
        rotate_left
        · (intro w0 hS0; obtain ⟨adx, ex, hx⟩ := Kd.at_int hS0 (2 * x) (by have := CX.out; omega) (by have := CX.out; have := CN.out; omega); cases ex; obtain ⟨ady, ey, hy⟩ := Kd.at_int hS0 (2 * x + 1) (by have := CX.out; omega) (by have := CX.out; have := CN.out; omega); cases ey; go_simp; try (with_reducible rfl))
        simp only [Act.put, List.setIfInBounds_toArray, List.set_cons_zero, List.set_cons_succ]
        refine Arl.take (i := 1) (v := ?_) rfl (by kernel_rfl) (by kernel_rfl) (by kernel_rfl) (fun _ _ _ h => h) (by rfl) ?_ HS ?_
        rotate_left
        · (intro w0 hS0; obtain ⟨adx, ex, hx⟩ := Kd.at_int hS0 (2 * x) (by have := CX.out; omega) (by have := CX.out; have := CN.out; omega); cases ex; obtain ⟨ady, ey, hy⟩ := Kd.at_int hS0 (2 * x + 1) (by have := CX.out; omega) (by have := CX.out; have := CN.out; omega); cases ey; go_simp; try (with_reducible rfl))
        simp only [Act.put, List.setIfInBounds_toArray, List.set_cons_zero, List.set_cons_succ]
        refine Arl.take (i := 2) (v := ?_) rfl (by kernel_rfl) (by kernel_rfl) (by kernel_rfl) (fun _ _ _ h => h) (by rfl) ?_ HS ?_
        rotate_left
        · (intro w0 hS0; obtain ⟨adx, ex, hx⟩ := Kd.at_int hS0 (2 * x) (by have := CX.out; omega) (by have := CX.out; have := CN.out; omega); cases ex; obtain ⟨ady, ey, hy⟩ := Kd.at_int hS0 (2 * x + 1) (by have := CX.out; omega) (by have := CX.out; have := CN.out; omega); cases ey; go_simp; try (with_reducible rfl))
        simp only [Act.put, List.setIfInBounds_toArray, List.set_cons_zero, List.set_cons_succ]
        refine Arl.take (i := 3) (v := ?_) rfl (by kernel_rfl) (by kernel_rfl) (by kernel_rfl) (fun _ _ _ h => h) (by rfl) ?_ HS ?_
        rotate_left
        · (intro w0 hS0; obtain ⟨adx, ex, hx⟩ := Kd.at_int hS0 (2 * x) (by have := CX.out; omega) (by have := CX.out; have := CN.out; omega); cases ex; obtain ⟨ady, ey, hy⟩ := Kd.at_int hS0 (2 * x + 1) (by have := CX.out; omega) (by have := CX.out; have := CN.out; omega); cases ey; go_simp; try (with_reducible rfl))
        simp only [Act.put, List.setIfInBounds_toArray, List.set_cons_zero, List.set_cons_succ]
        refine Arl.take (i := 4) (v := ?_) rfl (by kernel_rfl) (by kernel_rfl) (by kernel_rfl) (fun _ _ _ h => h) (by rfl) ?_ HS ?_
        rotate_left
        · (intro w0 hS0; obtain ⟨adx, ex, hx⟩ := Kd.at_int hS0 (2 * x) (by have := CX.out; omega) (by have := CX.out; have := CN.out; omega); cases ex; obtain ⟨ady, ey, hy⟩ := Kd.at_int hS0 (2 * x + 1) (by have := CX.out; omega) (by have := CX.out; have := CN.out; omega); cases ey; go_simp; try (with_reducible rfl))
        simp only [Act.put, List.setIfInBounds_toArray, List.set_cons_zero, List.set_cons_succ]
        refine Arl.take (i := 5) (v := ?_) rfl (by kernel_rfl) (by kernel_rfl) (by kernel_rfl) (fun _ _ _ h => h) (by rfl) ?_ HS ?_
        rotate_left
        · (intro w0 hS0; obtain ⟨adx, ex, hx⟩ := Kd.at_int hS0 (2 * x) (by have := CX.out; omega) (by have := CX.out; have := CN.out; omega); cases ex; obtain ⟨ady, ey, hy⟩ := Kd.at_int hS0 (2 * x + 1) (by have := CX.out; omega) (by have := CX.out; have := CN.out; omega); cases ey; go_simp; try (with_reducible rfl))
        simp only [Act.put, List.setIfInBounds_toArray, List.set_cons_zero, List.set_cons_succ]
        refine Arl.take (i := 6) (v := ?_) rfl (by kernel_rfl) (by kernel_rfl) (by kernel_rfl) (fun _ _ _ h => h) (by rfl) ?_ HS ?_
        rotate_left
        · (intro w0 hS0; obtain ⟨adx, ex, hx⟩ := Kd.at_int hS0 (2 * x) (by have := CX.out; omega) (by have := CX.out; have := CN.out; omega); cases ex; obtain ⟨ady, ey, hy⟩ := Kd.at_int hS0 (2 * x + 1) (by have := CX.out; omega) (by have := CX.out; have := CN.out; omega); cases ey; go_simp; try (with_reducible rfl))
        simp only [Act.put, List.setIfInBounds_toArray, List.set_cons_zero, List.set_cons_succ]
        refine Arl.take (i := 7) (v := ?_) rfl (by kernel_rfl) (by kernel_rfl) (by kernel_rfl) (fun _ _ _ h => h) (by rfl) ?_ HS ?_
        rotate_left
        · (intro w0 hS0; obtain ⟨adx, ex, hx⟩ := Kd.at_int hS0 (2 * x) (by have := CX.out; omega) (by have := CX.out; have := CN.out; omega); cases ex; obtain ⟨ady, ey, hy⟩ := Kd.at_int hS0 (2 * x + 1) (by have := CX.out; omega) (by have := CX.out; have := CN.out; omega); cases ey; go_simp; try (with_reducible rfl))
        simp only [Act.put, List.setIfInBounds_toArray, List.set_cons_zero, List.set_cons_succ]
        refine Arl.take (i := 8) (v := ?_) rfl (by kernel_rfl) (by kernel_rfl) (by kernel_rfl) (fun _ _ _ h => h) (by rfl) ?_ HS ?_
        rotate_left
        · (intro w0 hS0; obtain ⟨adx, ex, hx⟩ := Kd.at_int hS0 (2 * x) (by have := CX.out; omega) (by have := CX.out; have := CN.out; omega); cases ex; obtain ⟨ady, ey, hy⟩ := Kd.at_int hS0 (2 * x + 1) (by have := CX.out; omega) (by have := CX.out; have := CN.out; omega); cases ey; go_simp; try (with_reducible rfl))
        simp only [Act.put, List.setIfInBounds_toArray, List.set_cons_zero, List.set_cons_succ]
        refine Arl.take (i := 9) (v := ?_) rfl (by kernel_rfl) (by kernel_rfl) (by kernel_rfl) (fun _ _ _ h => h) (by rfl) ?_ HS ?_
        rotate_left
        · (intro w0 hS0; obtain ⟨adx, ex, hx⟩ := Kd.at_int hS0 (2 * x) (by have := CX.out; omega) (by have := CX.out; have := CN.out; omega); cases ex; obtain ⟨ady, ey, hy⟩ := Kd.at_int hS0 (2 * x + 1) (by have := CX.out; omega) (by have := CX.out; have := CN.out; omega); cases ey; go_simp; try (with_reducible rfl))
        simp only [Act.put, List.setIfInBounds_toArray, List.set_cons_zero, List.set_cons_succ]
        refine Arl.take (i := 10) (v := ?_) rfl (by kernel_rfl) (by kernel_rfl) (by kernel_rfl) (fun _ _ _ h => h) (by rfl) ?_ HS ?_
        rotate_left
        · (intro w0 hS0; obtain ⟨adx, ex, hx⟩ := Kd.at_int hS0 (2 * x) (by have := CX.out; omega) (by have := CX.out; have := CN.out; omega); cases ex; obtain ⟨ady, ey, hy⟩ := Kd.at_int hS0 (2 * x + 1) (by have := CX.out; omega) (by have := CX.out; have := CN.out; omega); cases ey; go_simp; try (with_reducible rfl))
        simp only [Act.put, List.setIfInBounds_toArray, List.set_cons_zero, List.set_cons_succ]
        refine Arl.take (i := 11) (v := ?_) rfl (by kernel_rfl) (by kernel_rfl) (by kernel_rfl) (fun _ _ _ h => h) (by rfl) ?_ HS ?_
        rotate_left
        · (intro w0 hS0; obtain ⟨adx, ex, hx⟩ := Kd.at_int hS0 (2 * x) (by have := CX.out; omega) (by have := CX.out; have := CN.out; omega); cases ex; obtain ⟨ady, ey, hy⟩ := Kd.at_int hS0 (2 * x + 1) (by have := CX.out; omega) (by have := CX.out; have := CN.out; omega); cases ey; go_simp; try (with_reducible rfl))
        simp only [Act.put, List.setIfInBounds_toArray, List.set_cons_zero, List.set_cons_succ]
        refine Arl.take (i := 12) (v := ?_) rfl (by kernel_rfl) (by kernel_rfl) (by kernel_rfl) (fun _ _ _ h => h) (by rfl) ?_ HS ?_
        rotate_left
        · (intro w0 hS0; obtain ⟨adx, ex, hx⟩ := Kd.at_int hS0 (2 * x) (by have := CX.out; omega) (by have := CX.out; have := CN.out; omega); cases ex; obtain ⟨ady, ey, hy⟩ := Kd.at_int hS0 (2 * x + 1) (by have := CX.out; omega) (by have := CX.out; have := CN.out; omega); cases ey; go_simp; try (with_reducible rfl))
        simp only [Act.put, List.setIfInBounds_toArray, List.set_cons_zero, List.set_cons_succ]
        refine Arl.take (i := 13) (v := ?_) rfl (by kernel_rfl) (by kernel_rfl) (by kernel_rfl) (fun _ _ _ h => h) (by rfl) ?_ HS ?_
        rotate_left
        · (intro w0 hS0; obtain ⟨adx, ex, hx⟩ := Kd.at_int hS0 (2 * x) (by have := CX.out; omega) (by have := CX.out; have := CN.out; omega); cases ex; obtain ⟨ady, ey, hy⟩ := Kd.at_int hS0 (2 * x + 1) (by have := CX.out; omega) (by have := CX.out; have := CN.out; omega); cases ey; go_simp; try (with_reducible rfl))
        simp only [Act.put, List.setIfInBounds_toArray, List.set_cons_zero, List.set_cons_succ]
        refine Arl.take (i := 14) (v := ?_) rfl (by kernel_rfl) (by kernel_rfl) (by kernel_rfl) (fun _ _ _ h => h) (by rfl) ?_ HS ?_
        rotate_left
        · (intro w0 hS0; obtain ⟨adx, ex, hx⟩ := Kd.at_int hS0 (2 * x) (by have := CX.out; omega) (by have := CX.out; have := CN.out; omega); cases ex; obtain ⟨ady, ey, hy⟩ := Kd.at_int hS0 (2 * x + 1) (by have := CX.out; omega) (by have := CX.out; have := CN.out; omega); cases ey; go_simp; try (with_reducible rfl))
        simp only [Act.put, List.setIfInBounds_toArray, List.set_cons_zero, List.set_cons_succ]
        refine Arl.take (i := 15) (v := ?_) rfl (by kernel_rfl) (by kernel_rfl) (by kernel_rfl) (fun _ _ _ h => h) (by rfl) ?_ HS ?_
        rotate_left
        · (intro w0 hS0; obtain ⟨adx, ex, hx⟩ := Kd.at_int hS0 (2 * x) (by have := CX.out; omega) (by have := CX.out; have := CN.out; omega); cases ex; obtain ⟨ady, ey, hy⟩ := Kd.at_int hS0 (2 * x + 1) (by have := CX.out; omega) (by have := CX.out; have := CN.out; omega); cases ey; go_simp; try (with_reducible rfl))
        simp only [Act.put, List.setIfInBounds_toArray, List.set_cons_zero, List.set_cons_succ]
        refine Arl.take (i := 16) (v := ?_) rfl (by kernel_rfl) (by kernel_rfl) (by kernel_rfl) (fun _ _ _ h => h) (by rfl) ?_ HS ?_
        rotate_left
        · (intro w0 hS0; obtain ⟨adx, ex, hx⟩ := Kd.at_int hS0 (2 * x) (by have := CX.out; omega) (by have := CX.out; have := CN.out; omega); cases ex; obtain ⟨ady, ey, hy⟩ := Kd.at_int hS0 (2 * x + 1) (by have := CX.out; omega) (by have := CX.out; have := CN.out; omega); cases ey; go_simp; try (with_reducible rfl))
        simp only [Act.put, List.setIfInBounds_toArray, List.set_cons_zero, List.set_cons_succ]
        have hcB := Arr.cell_of (blk_drew S_gB.out) (x + 1) (by have := CX.out; omega) (by have := CX.out; have := LB.out; omega)
        have hfB := blk_frozen (blk_drew S_gB.out) (x + 1).toNat
        refine wpAnyH_ready (rs := [17]) (by kernel_rfl) (by simp) ?_
        refine AllReadyH.cons (o := _) (Arl.nth_some rfl) (fun K hK => ?_) AllReadyH.nil
        go_simp
        refine hK.out _ _ (Kd.R_reads' (Kd.R_set (Kd.R_drew HO.out) (blk_drew S_gB.out) (by decide) _ _)).2.2 (fun HS => ?_)
        refine wpAnyH_done (by kernel_rfl) ?_ _
        clear hcB hfB HS hK
        go_wp2
        go_roundg (14 - i)
        case measure => have := HI.out; omega
        case rel =>
          have hx := HI.out
          refine ⟨x + 1, i + 1, rfl, ⟨⟨by omega, by omega, by omega⟩⟩, ⟨Arr.blk_other (blk_drew S_gF.out) N_gB_gF.out⟩, ⟨Arr.blk_other (blk_drew S_gE.out) N_gB_gE.out⟩, ⟨Arr.blk_other (blk_drew S_gH.out) N_gB_gH.out⟩, ⟨?_⟩, ⟨Kd.R_set (Kd.R_drew HO.out) (blk_drew S_gB.out) (by decide) _ _⟩, ⟨below_set (below_drew1 HB.out) G_gB.out⟩⟩
          have h1 := Arr.put_of (blk_drew S_gB.out) (x + 1).toNat (spec_FrameOf.bt n x)
          rw [HSET.out] at h1
          exact h1
    · have hi : i = 15 := by have := HI.out.2.1; omega
      have cb : decide (x < 15) = false := decide_eq_false (by have := HI.out.1; omega)
      have SB := Aside0.mk (show wr.heap[gB]? = some (.cells (Arr.u8s mf) 41 (0, 0)) by
        have h1 := S_gB.out
        rw [hi, List.take_of_length_le (by have := HM.out.1; omega)] at h1
        simpa using h1)
      clear c S_gB hi
      have LM := Aside0.mk (show (Arr.u8s mf).size = 16 by rw [Arr.u8s_size]; exact HM.out.1)
      go_upto_region 10 with (fail)
      · refine wp_region_held_drew (S := fun w' => w'.heap[gH]? = some (.cells #[.int .i64 x2, .int .i64 x3] 34 (0, 0)) ∧ w'.heap[gB]? = some (.cells (Arr.u8s mf) 41 (0, 0))) rfl ⟨blk_drew S_gH.out, blk_drew SB.out⟩ (fun HS => ?_)
        refine Arl.take (i := 0) (v := .agg (Arr.u8s mf)) rfl (by kernel_rfl) (by kernel_rfl) (by kernel_rfl) (fun _ _ _ h => h) (by rfl) (fun W hW => spec_FrameOf.load_run rfl rfl hW.2 hu41 rfl (by rw [LM.out]; kernel_rfl)) HS ?_
        simp only [Act.put, List.setIfInBounds_toArray, List.set_cons_zero, List.set_cons_succ]
        refine Arl.take (i := 1) (v := .agg #[.int .i64 x2, .int .i64 x3]) rfl (by kernel_rfl) (by kernel_rfl) (by kernel_rfl) (fun _ _ _ h => h) (by rfl) (fun W hW => spec_FrameOf.load_run rfl rfl hW.1 hu34 rfl (by kernel_rfl)) HS ?_
        simp only [Act.put, List.setIfInBounds_toArray, List.set_cons_zero, List.set_cons_succ]
        refine wpAnyH_ready (rs := [2]) (by kernel_rfl) (by simp) ?_
        refine AllReadyH.cons (o := _) (Arl.nth_some rfl) (fun K hK => ?_) AllReadyH.nil
        refine spec_FrameOf.store_step (by rfl) (T := 41) (p := 4) (g := gF) (old := #[.int .u8 0, .int .u8 0, .int .u8 0, .int .u8 0, .int .u8 0, .int .u8 0, .int .u8 0, .int .u8 0, .int .u8 0, .int .u8 0, .int .u8 0, .int .u8 0, .int .u8 0, .int .u8 0, .int .u8 0, .int .u8 0]) (cs := Arr.u8s mf) (t := 41) rfl rfl rfl rfl (blk_drew S_gF.out) (by rw [LM.out]; kernel_rfl) (by rw [LM.out]; first | done | rfl) (Arr.u8s_one _) ?_
        intro w7 hs_ hk_ hB_
        have T_gF := Aside0.mk hs_
        have T_gE := Aside0.mk ((hk_ _ N_gE_gF.out).trans (blk_drew S_gE.out))
        have T_gH := Aside0.mk ((hk_ _ N_gH_gF.out).trans (blk_drew S_gH.out))
        have T_gB := Aside0.mk ((hk_ _ N_gB_gF.out).trans (blk_drew SB.out))
        have THB := Aside0.mk (hB_ _ _ (below_drew1 HB.out) G_gF.out)
        refine hK.out _ _ ⟨T_gH.out, T_gB.out⟩ (fun HS2 => ?_)
        clear hs_ hk_ hB_ HS hK K S_gF S_gE S_gH SB HB
        refine wpAnyH_ready (rs := [3]) (by kernel_rfl) (by simp) ?_
        refine AllReadyH.cons (o := _) (Arl.nth_some rfl) (fun K hK => ?_) AllReadyH.nil
        refine spec_FrameOf.store_step (by rfl) (T := 34) (p := 5) (g := gE) (old := #[.int .i64 0, .int .i64 0]) (cs := #[.int .i64 x2, .int .i64 x3]) (t := 34) rfl rfl rfl rfl T_gE.out (by kernel_rfl) rfl (by simp [Value.oneCell']) ?_
        intro w8 hs_ hk_ hB_
        have S_gE := Aside0.mk hs_
        have S_gF := Aside0.mk ((hk_ _ N_gF_gE.out).trans T_gF.out)
        have HB := Aside0.mk (hB_ _ _ THB.out G_gE.out)
        refine hK.out _ _ ⟨(hk_ _ N_gH_gE.out).trans T_gH.out, (hk_ _ N_gB_gE.out).trans T_gB.out⟩ (fun HS => ?_)
        clear hs_ hk_ hB_ HS2 hK K T_gF T_gE T_gH T_gB THB
        refine Arl.take (i := 4) (v := .bool true) rfl (by kernel_rfl) (by kernel_rfl) (by kernel_rfl) (fun _ _ _ h => h) (by rfl) (fun W hW => by go_simp) HS ?_
        simp only [Act.put, List.setIfInBounds_toArray, List.set_cons_zero, List.set_cons_succ]
        refine wpAnyH_done (by kernel_rfl) ?_ _
        clear HS
        go_wp2
        refine bodyPost_ret (results_list (rs := [.cell 4 41, .cell 5 34, .tmp 6]) rfl (by simp) (.cell gF 41 (Arr.u8s mf) (0, 0) _ rfl S_gF.out Try.underlying41 rfl (by rw [Arr.u8s_size, HM.out.1]; kernel_rfl) (.cell gE 34 #[.int .i64 x2, .int .i64 x3] (0, 0) _ rfl S_gE.out Try.underlying34 rfl (by kernel_rfl) (.tmp .nil)))) rfl ?_
        exact ⟨rfl, HB.out⟩

/-! ### impl_FrameOf: function 40 -/
def impl_FrameOf.bt (n : List Int) (j : Int) : Int := IntKind.u8.wrap (wrap64 (wrap64 (16 * rd n (2 * j)) + rd n (2 * j + 1)))
def impl_FrameOf.b0 (s : Int) : Int := IntKind.u8.wrap s
theorem impl_FrameOf.list (r1 r2 r3 r4 r5 r6 r7 r8 r9 r10 r11 r12 r13 r14 r15 r16 : Int) : (#[.int .u8 r1, .int .u8 r2, .int .u8 r3, .int .u8 r4, .int .u8 r5, .int .u8 r6, .int .u8 r7, .int .u8 r8, .int .u8 r9, .int .u8 r10, .int .u8 r11, .int .u8 r12, .int .u8 r13, .int .u8 r14, .int .u8 r15, .int .u8 r16] : Array Value) = Arr.u8s [r1, r2, r3, r4, r5, r6, r7, r8, r9, r10, r11, r12, r13, r14, r15, r16] := rfl
theorem impl_FrameOf.set_next (l : List Int) (n i : Nat) (hl : l.length = n) (hi : i < n) : (l.take i ++ List.replicate (n - i) (0 : Int)).set i (l.getD i 0) = l.take (i + 1) ++ List.replicate (n - (i + 1)) (0 : Int) := by
  apply List.ext_getElem?
  intro j
  by_cases hj : j = i
  · subst hj
    rw [List.getElem?_set_self (by simp; omega), List.getElem?_append_left (by simp; omega), List.getElem?_take_of_lt (by omega), List.getElem?_eq_getElem (by omega)]
    simp [List.getD_eq_getElem?_getD, List.getElem?_eq_getElem (show j < l.length by omega)]
  · rw [List.getElem?_set_ne (by omega)]
    by_cases h1 : j < i
    · rw [List.getElem?_append_left (by simp; omega), List.getElem?_append_left (by simp; omega), List.getElem?_take_of_lt h1, List.getElem?_take_of_lt (by omega)]
    · rw [List.getElem?_append_right (by simp; omega), List.getElem?_append_right (by simp; omega), List.getElem?_replicate, List.getElem?_replicate]
      simp only [List.length_take]
      split <;> split <;> first | rfl | omega
section
variable {P : Program} {ops : Array Oper} {o : Oper} {a : Act} {Q : Exit → Act → World → Prop} {W : World} {Kc : Act → World → Prop}
theorem impl_FrameOf.load_run {T : TypeId} {p : Tmp} (ho : o.op = .load T (.tmp p)) {g : Nat} {cs : Array Value} {t : TypeId} {fr : Nat × Nat} {d : TypeDesc}
    (hp : a.eval (.tmp p) = .pointer (some ⟨g, 0, none⟩)) (hb : W.heap[g]? = some (.cells cs t fr)) (hu : P.underlying T = some d) (hr : (match d with | .struct _ | .array _ _ => true | _ => false) = true)
    (hi : (P.info? T).map (·.size) = some cs.size) : (execOp a.eval o).run P W = .ok (.value (.agg cs)) W := by
  have hrun : (Instr.loadAt T (.pointer (some ⟨g, 0, none⟩))).run P W = .ok (.agg cs) W := by
    simp only [Instr.loadAt, Instr.sureAddr, Sem.run_bind, Sem.run_pure, Result.andThen_ok, run_loadVar_row W g t T cs fr d hb hu hr hi]
  simp only [execOp, ho, hp]
  simp [hrun, Result.andThen]
theorem impl_FrameOf.store_step (hw : Region.wanted o (yielded ops a.tmps) = true) {T : TypeId} {p : Tmp} {v : Operand} (ho : o.op = .store T (.tmp p) v) (hN : o.dst = none) {g : Nat} {old cs : Array Value} {t : TypeId}
    (hp : a.eval (.tmp p) = .pointer (some ⟨g, 0, none⟩)) (hv : a.eval v = .agg cs) (hb : W.heap[g]? = some (.cells old t (0, 0))) (hi : (P.info? T).map (·.size) = some cs.size) (hs : old.size = cs.size)
    (h1 : cs.all (·.oneCell') = true)
    (h : ∀ w', w'.heap[g]? = some (.cells cs t (0, 0)) → (∀ k, k ≠ g → w'.heap[k]? = W.heap[k]?) → (∀ (B : Nat) (w0 : World), Below B w0 W → B ≤ g → Below B w0 w') → Kc a w') :
    if Region.wanted o (yielded ops a.tmps) = true then Oper.wp P o a W Kc Q else Kc (a.put o.dst undef) W := by
  rw [if_pos hw]
  have hrun : (Instr.storeAt T (.pointer (some ⟨g, 0, none⟩)) (.agg cs)).run P W = .ok () (W.setRow g cs) := by
    simp only [Instr.storeAt, Instr.sureAddr, Sem.run_bind, Sem.run_pure, Result.andThen_ok, run_storeVar_row W g t T old cs hb hi hs h1]
  have hrow : (W.setRow g cs).heap[g]? = some (.cells cs t (0, 0)) := by
    simp [World.setRow, Array.getElem?_modify, hb]
  have hexec : (execOp a.eval o).run P W = .ok .skip (W.setRow g cs) := by
    simp only [execOp, ho, hp, hv]
    simp [hrun, Result.andThen]
  unfold Oper.wp
  rw [hexec]
  show Kc (a.put o.dst undef) (W.setRow g cs)
  rw [hN]
  exact h _ hrow (fun k hk => setRow_other W g k cs hk) (fun B w0 hB hg => below_setRow hB hg cs)
end
def impl_FrameOf.f (k : Nat) (a0_0 a0_1 : Int) (l1 : List Int) : Option (Int × Int × Int × Int × Int × Int × Int × Int × Int × Int × Int × Int × Int × Int × Int × Int × Int × Int × Bool) := (impl_Squeeze.f k a0_0 a0_1 l1).bind fun bt => if bt.2.2.2 = true ∧ l1.length = 30 then (if 30 ≤ bt.1.length then some (impl_FrameOf.b0 a0_1, impl_FrameOf.bt bt.1 0, impl_FrameOf.bt bt.1 1, impl_FrameOf.bt bt.1 2, impl_FrameOf.bt bt.1 3, impl_FrameOf.bt bt.1 4, impl_FrameOf.bt bt.1 5, impl_FrameOf.bt bt.1 6, impl_FrameOf.bt bt.1 7, impl_FrameOf.bt bt.1 8, impl_FrameOf.bt bt.1 9, impl_FrameOf.bt bt.1 10, impl_FrameOf.bt bt.1 11, impl_FrameOf.bt bt.1 12, impl_FrameOf.bt bt.1 13, impl_FrameOf.bt bt.1 14, bt.2.1, bt.2.2.1, true) else none) else some (0, 0, 0, 0, 0, 0, 0, 0, 0, 0, 0, 0, 0, 0, 0, 0, 0, 0, false)
theorem impl_FrameOf.mono : ∀ a0_0 a0_1 l1 k, LeO (impl_FrameOf.f k a0_0 a0_1 l1) (impl_FrameOf.f (k + 1) a0_0 a0_1 l1) := by
  intro a0_0 a0_1 l1 k
  unfold impl_FrameOf.f
  exact LeO.bind (impl_Squeeze.mono _ _ _ _) (fun _ => LeO.refl _)
set_option maxHeartbeats 8000000 in
set_option maxRecDepth 100000 in
theorem impl_FrameOf.calls (k : Nat) (a0_0 a0_1 : Int) (A1 : Option Addr) (c1 : Nat) (l1 : List Int) (r1 r2 r3 r4 r5 r6 r7 r8 r9 r10 r11 r12 r13 r14 r15 r16 r17 r18 : Int) (r19 : Bool) (w : World) (hr1 : Kd.C (Kd.int .i64) w A1 l1.length l1) (hc1 : l1.length ≤ c1) (h : impl_FrameOf.f k a0_0 a0_1 l1 = some (r1, r2, r3, r4, r5, r6, r7, r8, r9, r10, r11, r12, r13, r14, r15, r16, r17, r18, r19)) :
    Calls Try.prog 40 #[.agg #[.int .i64 a0_0, .int .i64 a0_1], .slice A1 l1.length c1] w fun e w' => e = .returned (.tuple #[.agg #[.int .u8 r1, .int .u8 r2, .int .u8 r3, .int .u8 r4, .int .u8 r5, .int .u8 r6, .int .u8 r7, .int .u8 r8, .int .u8 r9, .int .u8 r10, .int .u8 r11, .int .u8 r12, .int .u8 r13, .int .u8 r14, .int .u8 r15, .int .u8 r16], .agg #[.int .i64 r17, .int .i64 r18], .bool r19]) ∧ Below w.heap.size w w' := by
  have hu41 := Try.underlying41
  have hu34 := Try.underlying34
  have HB := Aside0.mk (Below.refl w.heap.size w)
  have HR := Aside0.mk hr1
  have HC := Aside0.mk hc1
  clear hr1 hc1
  rw [impl_FrameOf.f] at h
  obtain ⟨⟨n, x2, x3, x4⟩, A20, H⟩ := Option.bind_eq_some_iff.mp h
  have A2 := Aside0.mk A20
  clear h A20
  replace H : (if x4 = true ∧ l1.length = 30 then (if 30 ≤ n.length then some (impl_FrameOf.b0 a0_1, impl_FrameOf.bt n 0, impl_FrameOf.bt n 1, impl_FrameOf.bt n 2, impl_FrameOf.bt n 3, impl_FrameOf.bt n 4, impl_FrameOf.bt n 5, impl_FrameOf.bt n 6, impl_FrameOf.bt n 7, impl_FrameOf.bt n 8, impl_FrameOf.bt n 9, impl_FrameOf.bt n 10, impl_FrameOf.bt n 11, impl_FrameOf.bt n 12, impl_FrameOf.bt n 13, impl_FrameOf.bt n 14, x2, x3, true) else none) else some (0, 0, 0, 0, 0, 0, 0, 0, 0, 0, 0, 0, 0, 0, 0, 0, 0, 0, false)) = some (r1, r2, r3, r4, r5, r6, r7, r8, r9, r10, r11, r12, r13, r14, r15, r16, r17, r18, r19) := H
  rw [impl_FrameOf.list r1 r2 r3 r4 r5 r6 r7 r8 r9 r10 r11 r12 r13 r14 r15 r16]
  by_cases c : x4 = true ∧ l1.length = 30
  case neg =>
    rw [if_neg c] at H
    simp only [Option.some.injEq, Prod.mk.injEq] at H
    obtain ⟨rfl, rfl, rfl, rfl, rfl, rfl, rfl, rfl, rfl, rfl, rfl, rfl, rfl, rfl, rfl, rfl, rfl, rfl, rfl⟩ := H
    cases x4 with
    | false =>
      clear c
      go_enter Try.func40, Try.ntmps40
      go_wp2_with (first | ((with_reducible refine gate_dst (N := 2) rfl ?_); refine box_event ?hg (N := 2) ?hd (cs := #[.int .i64 a0_0, .int .i64 a0_1]) (t := 34) ?hr ?_; (case hd => rfl); (case hg => rfl); (case hr => first | (go_simp; done) | (go_simp; rfl)); intro gA hg_ wgA hbox_ hb_; have G_gA := Aside0.mk (show w.heap.size ≤ gA by rw [hg_]; exact below_size HB.out); have n_HB := Aside0.mk (below_step HB.out hb_); clear HB; have HB := n_HB; clear n_HB; have S_gA := Aside0.mk hbox_; clear hg_ hbox_ hb_) | ((with_reducible refine gate_dst (N := 4) rfl ?_); refine box_event ?hg (N := 4) ?hd (cs := #[.int .u8 0, .int .u8 0, .int .u8 0, .int .u8 0, .int .u8 0, .int .u8 0, .int .u8 0, .int .u8 0, .int .u8 0, .int .u8 0, .int .u8 0, .int .u8 0, .int .u8 0, .int .u8 0, .int .u8 0, .int .u8 0]) (t := 41) ?hr ?_; (case hd => rfl); (case hg => rfl); (case hr => first | (go_simp; done) | (go_simp; rfl)); intro gF hg_ wgF hbox_ hb_; have G_gF := Aside0.mk (show w.heap.size ≤ gF by rw [hg_]; exact below_size HB.out); have N_gA_gF := Aside0.mk (show gA ≠ gF by rw [hg_]; exact Nat.ne_of_lt (blk_lt S_gA.out)); have N_gF_gA := Aside0.mk (show gF ≠ gA by rw [hg_]; exact Nat.ne_of_gt (blk_lt S_gA.out)); have n_S_gA := Aside0.mk (blk_below S_gA.out hb_); have n_HB := Aside0.mk (below_step HB.out hb_); clear S_gA HB; have S_gA := n_S_gA; have HB := n_HB; clear n_S_gA n_HB; have S_gF := Aside0.mk hbox_; clear hg_ hbox_ hb_) | ((with_reducible refine gate_dst (N := 5) rfl ?_); refine box_event ?hg (N := 5) ?hd (cs := #[.int .i64 0, .int .i64 0]) (t := 34) ?hr ?_; (case hd => rfl); (case hg => rfl); (case hr => first | (go_simp; done) | (go_simp; rfl)); intro gE hg_ wgE hbox_ hb_; have G_gE := Aside0.mk (show w.heap.size ≤ gE by rw [hg_]; exact below_size HB.out); have N_gA_gE := Aside0.mk (show gA ≠ gE by rw [hg_]; exact Nat.ne_of_lt (blk_lt S_gA.out)); have N_gE_gA := Aside0.mk (show gE ≠ gA by rw [hg_]; exact Nat.ne_of_gt (blk_lt S_gA.out)); have N_gF_gE := Aside0.mk (show gF ≠ gE by rw [hg_]; exact Nat.ne_of_lt (blk_lt S_gF.out)); have N_gE_gF := Aside0.mk (show gE ≠ gF by rw [hg_]; exact Nat.ne_of_gt (blk_lt S_gF.out)); have n_S_gA := Aside0.mk (blk_below S_gA.out hb_); have n_S_gF := Aside0.mk (blk_below S_gF.out hb_); have n_HB := Aside0.mk (below_step HB.out hb_); clear S_gA S_gF HB; have S_gA := n_S_gA; have S_gF := n_S_gF; have HB := n_HB; clear n_S_gA n_S_gF n_HB; have S_gE := Aside0.mk hbox_; clear hg_ hbox_ hb_) | ((with_reducible refine gate_dst (N := 13) rfl ?_); refine Arr.load_all rfl rfl rfl rfl S_gA.out hu34 rfl (by kernel_rfl) ?_) | (go_at_call 38; (with_reducible refine (impl_Squeeze.calls k a0_0 a0_1 A1 c1 l1 _ _ _ _ _ (Kd.C_below HR.out HB.out) HC.out A2.out).mono ?_); rintro e w3 ⟨v9, rfl, hR_, hb_⟩; (try refine ⟨_, rfl, ?_⟩); have HO0 := Aside0.mk (Kd.R_lower hR_ (below_size HB.out)); have n_S_gA := Aside0.mk (blk_below S_gA.out hb_); have n_S_gF := Aside0.mk (blk_below S_gF.out hb_); have n_S_gE := Aside0.mk (blk_below S_gE.out hb_); have n_HB := Aside0.mk (below_step HB.out hb_); clear S_gA S_gF S_gE HB; have S_gA := n_S_gA; have S_gF := n_S_gF; have S_gE := n_S_gE; have HB := n_HB; clear n_S_gA n_S_gF n_S_gE n_HB; have HO := HO0; clear HO0 hR_ hb_) | ((with_reducible refine gate_dst (N := 8) rfl ?_); refine box_event ?hg (N := 8) ?hd (cs := #[.int .i64 0, .int .i64 0]) (t := 34) ?hr ?_; (case hd => rfl); (case hg => rfl); (case hr => first | (go_simp; done) | (go_simp; rfl)); intro gH hg_ wgH hbox_ hb_; have G_gH := Aside0.mk (show w.heap.size ≤ gH by rw [hg_]; exact below_size HB.out); have N_gA_gH := Aside0.mk (show gA ≠ gH by rw [hg_]; exact Nat.ne_of_lt (blk_lt S_gA.out)); have N_gH_gA := Aside0.mk (show gH ≠ gA by rw [hg_]; exact Nat.ne_of_gt (blk_lt S_gA.out)); have N_gF_gH := Aside0.mk (show gF ≠ gH by rw [hg_]; exact Nat.ne_of_lt (blk_lt S_gF.out)); have N_gH_gF := Aside0.mk (show gH ≠ gF by rw [hg_]; exact Nat.ne_of_gt (blk_lt S_gF.out)); have N_gE_gH := Aside0.mk (show gE ≠ gH by rw [hg_]; exact Nat.ne_of_lt (blk_lt S_gE.out)); have N_gH_gE := Aside0.mk (show gH ≠ gE by rw [hg_]; exact Nat.ne_of_gt (blk_lt S_gE.out)); have n_S_gA := Aside0.mk (blk_below S_gA.out hb_); have n_S_gF := Aside0.mk (blk_below S_gF.out hb_); have n_S_gE := Aside0.mk (blk_below S_gE.out hb_); have n_HO := Aside0.mk (Kd.R_below HO.out hb_); have n_HB := Aside0.mk (below_step HB.out hb_); clear S_gA S_gF S_gE HO HB; have S_gA := n_S_gA; have S_gF := n_S_gF; have S_gE := n_S_gE; have HO := n_HO; have HB := n_HB; clear n_S_gA n_S_gF n_S_gE n_HO n_HB; have S_gH := Aside0.mk hbox_; clear hg_ hbox_ hb_) | ((with_reducible refine gate_store (t := 34) (p := 8) rfl ?_); refine Arr.store_all (T := 34) (p := 8) (g := gH) (old := #[.int .i64 0, .int .i64 0]) (cs := #[.int .i64 x2, .int .i64 x3]) (t := 34) rfl rfl rfl rfl rfl S_gH.out (by kernel_rfl) (by first | rfl | (simp)) (by first | rfl | simp [Value.oneCell']) ?_; intro w4 hs_ hk_ hB_; have n_S_gA := Aside0.mk ((hk_ _ N_gA_gH.out).trans S_gA.out); have n_S_gF := Aside0.mk ((hk_ _ N_gF_gH.out).trans S_gF.out); have n_S_gE := Aside0.mk ((hk_ _ N_gE_gH.out).trans S_gE.out); have n_S_gH := Aside0.mk (hs_); have n_HO := Aside0.mk (Kd.R_mono (Kd.R_step (Kd.R_types HO.out S_gH.out (by decide)) (fun k hk _ => hk_ k hk.2)) (fun _ hk => hk.1)); have n_HB := Aside0.mk (hB_ _ _ HB.out G_gH.out); clear S_gA S_gF S_gE S_gH HO HB; have S_gA := n_S_gA; have S_gF := n_S_gF; have S_gE := n_S_gE; have S_gH := n_S_gH; have HO := n_HO; have HB := n_HB; clear n_S_gA n_S_gF n_S_gE n_S_gH n_HO n_HB; clear hs_ hk_ hB_) | ((with_reducible refine gate_store (t := 41) (p := 4) rfl ?_); refine Arr.store_all (T := 41) (p := 4) (g := gF) (old := #[.int .u8 0, .int .u8 0, .int .u8 0, .int .u8 0, .int .u8 0, .int .u8 0, .int .u8 0, .int .u8 0, .int .u8 0, .int .u8 0, .int .u8 0, .int .u8 0, .int .u8 0, .int .u8 0, .int .u8 0, .int .u8 0]) (cs := #[.int .u8 0, .int .u8 0, .int .u8 0, .int .u8 0, .int .u8 0, .int .u8 0, .int .u8 0, .int .u8 0, .int .u8 0, .int .u8 0, .int .u8 0, .int .u8 0, .int .u8 0, .int .u8 0, .int .u8 0, .int .u8 0]) (t := 41) rfl rfl rfl rfl rfl S_gF.out (by kernel_rfl) (by first | rfl | (simp)) (by first | rfl | simp [Value.oneCell']) ?_; intro w5 hs_ hk_ hB_; have n_S_gA := Aside0.mk ((hk_ _ N_gA_gF.out).trans S_gA.out); have n_S_gF := Aside0.mk (hs_); have n_S_gE := Aside0.mk ((hk_ _ N_gE_gF.out).trans S_gE.out); have n_S_gH := Aside0.mk ((hk_ _ N_gH_gF.out).trans S_gH.out); have n_HO := Aside0.mk (Kd.R_mono (Kd.R_step (Kd.R_types HO.out S_gF.out (by decide)) (fun k hk _ => hk_ k hk.2)) (fun _ hk => hk.1)); have n_HB := Aside0.mk (hB_ _ _ HB.out G_gF.out); clear S_gA S_gF S_gE S_gH HO HB; have S_gA := n_S_gA; have S_gF := n_S_gF; have S_gE := n_S_gE; have S_gH := n_S_gH; have HO := n_HO; have HB := n_HB; clear n_S_gA n_S_gF n_S_gE n_S_gH n_HO n_HB; clear hs_ hk_ hB_) | ((with_reducible refine gate_store (t := 34) (p := 5) rfl ?_); refine Arr.store_all (T := 34) (p := 5) (g := gE) (old := #[.int .i64 0, .int .i64 0]) (cs := #[.int .i64 0, .int .i64 0]) (t := 34) rfl rfl rfl rfl rfl S_gE.out (by kernel_rfl) (by first | rfl | (simp)) (by first | rfl | simp [Value.oneCell']) ?_; intro w6 hs_ hk_ hB_; have n_S_gA := Aside0.mk ((hk_ _ N_gA_gE.out).trans S_gA.out); have n_S_gF := Aside0.mk ((hk_ _ N_gF_gE.out).trans S_gF.out); have n_S_gE := Aside0.mk (hs_); have n_S_gH := Aside0.mk ((hk_ _ N_gH_gE.out).trans S_gH.out); have n_HO := Aside0.mk (Kd.R_mono (Kd.R_step (Kd.R_types HO.out S_gE.out (by decide)) (fun k hk _ => hk_ k hk.2)) (fun _ hk => hk.1)); have n_HB := Aside0.mk (hB_ _ _ HB.out G_gE.out); clear S_gA S_gF S_gE S_gH HO HB; have S_gA := n_S_gA; have S_gF := n_S_gF; have S_gE := n_S_gE; have S_gH := n_S_gH; have HO := n_HO; have HB := n_HB; clear n_S_gA n_S_gF n_S_gE n_S_gH n_HO n_HB; clear hs_ hk_ hB_))
      refine bodyPost_ret (results_list (rs := [.cell 4 41, .cell 5 34, .tmp 6]) rfl (by simp) (.cell gF 41 #[.int .u8 0, .int .u8 0, .int .u8 0, .int .u8 0, .int .u8 0, .int .u8 0, .int .u8 0, .int .u8 0, .int .u8 0, .int .u8 0, .int .u8 0, .int .u8 0, .int .u8 0, .int .u8 0, .int .u8 0, .int .u8 0] (0, 0) _ rfl S_gF.out Try.underlying41 rfl (by kernel_rfl) (.cell gE 34 #[.int .i64 0, .int .i64 0] (0, 0) _ rfl S_gE.out Try.underlying34 rfl (by kernel_rfl) (.tmp .nil)))) rfl ?_
      exact ⟨rfl, HB.out⟩
    | true =>
      have c2 : (l1.length == 30) = false := by simp at c ⊢; exact c
      have c2i : ((l1.length : Int) == 30) = false := by simp at c ⊢; omega
      have c3 : ((l1.length : Int) != 30) = true := by simp at c ⊢; omega
      clear c
      go_enter Try.func40, Try.ntmps40
      go_wp2_with (first | ((with_reducible refine gate_dst (N := 2) rfl ?_); refine box_event ?hg (N := 2) ?hd (cs := #[.int .i64 a0_0, .int .i64 a0_1]) (t := 34) ?hr ?_; (case hd => rfl); (case hg => rfl); (case hr => first | (go_simp; done) | (go_simp; rfl)); intro gA hg_ wgA hbox_ hb_; have G_gA := Aside0.mk (show w.heap.size ≤ gA by rw [hg_]; exact below_size HB.out); have n_HB := Aside0.mk (below_step HB.out hb_); clear HB; have HB := n_HB; clear n_HB; have S_gA := Aside0.mk hbox_; clear hg_ hbox_ hb_) | ((with_reducible refine gate_dst (N := 4) rfl ?_); refine box_event ?hg (N := 4) ?hd (cs := #[.int .u8 0, .int .u8 0, .int .u8 0, .int .u8 0, .int .u8 0, .int .u8 0, .int .u8 0, .int .u8 0, .int .u8 0, .int .u8 0, .int .u8 0, .int .u8 0, .int .u8 0, .int .u8 0, .int .u8 0, .int .u8 0]) (t := 41) ?hr ?_; (case hd => rfl); (case hg => rfl); (case hr => first | (go_simp; done) | (go_simp; rfl)); intro gF hg_ wgF hbox_ hb_; have G_gF := Aside0.mk (show w.heap.size ≤ gF by rw [hg_]; exact below_size HB.out); have N_gA_gF := Aside0.mk (show gA ≠ gF by rw [hg_]; exact Nat.ne_of_lt (blk_lt S_gA.out)); have N_gF_gA := Aside0.mk (show gF ≠ gA by rw [hg_]; exact Nat.ne_of_gt (blk_lt S_gA.out)); have n_S_gA := Aside0.mk (blk_below S_gA.out hb_); have n_HB := Aside0.mk (below_step HB.out hb_); clear S_gA HB; have S_gA := n_S_gA; have HB := n_HB; clear n_S_gA n_HB; have S_gF := Aside0.mk hbox_; clear hg_ hbox_ hb_) | ((with_reducible refine gate_dst (N := 5) rfl ?_); refine box_event ?hg (N := 5) ?hd (cs := #[.int .i64 0, .int .i64 0]) (t := 34) ?hr ?_; (case hd => rfl); (case hg => rfl); (case hr => first | (go_simp; done) | (go_simp; rfl)); intro gE hg_ wgE hbox_ hb_; have G_gE := Aside0.mk (show w.heap.size ≤ gE by rw [hg_]; exact below_size HB.out); have N_gA_gE := Aside0.mk (show gA ≠ gE by rw [hg_]; exact Nat.ne_of_lt (blk_lt S_gA.out)); have N_gE_gA := Aside0.mk (show gE ≠ gA by rw [hg_]; exact Nat.ne_of_gt (blk_lt S_gA.out)); have N_gF_gE := Aside0.mk (show gF ≠ gE by rw [hg_]; exact Nat.ne_of_lt (blk_lt S_gF.out)); have N_gE_gF := Aside0.mk (show gE ≠ gF by rw [hg_]; exact Nat.ne_of_gt (blk_lt S_gF.out)); have n_S_gA := Aside0.mk (blk_below S_gA.out hb_); have n_S_gF := Aside0.mk (blk_below S_gF.out hb_); have n_HB := Aside0.mk (below_step HB.out hb_); clear S_gA S_gF HB; have S_gA := n_S_gA; have S_gF := n_S_gF; have HB := n_HB; clear n_S_gA n_S_gF n_HB; have S_gE := Aside0.mk hbox_; clear hg_ hbox_ hb_) | ((with_reducible refine gate_dst (N := 13) rfl ?_); refine Arr.load_all rfl rfl rfl rfl S_gA.out hu34 rfl (by kernel_rfl) ?_) | (go_at_call 38; (with_reducible refine (impl_Squeeze.calls k a0_0 a0_1 A1 c1 l1 _ _ _ _ _ (Kd.C_below HR.out HB.out) HC.out A2.out).mono ?_); rintro e w3 ⟨v9, rfl, hR_, hb_⟩; (try refine ⟨_, rfl, ?_⟩); have HO0 := Aside0.mk (Kd.R_lower hR_ (below_size HB.out)); have n_S_gA := Aside0.mk (blk_below S_gA.out hb_); have n_S_gF := Aside0.mk (blk_below S_gF.out hb_); have n_S_gE := Aside0.mk (blk_below S_gE.out hb_); have n_HB := Aside0.mk (below_step HB.out hb_); clear S_gA S_gF S_gE HB; have S_gA := n_S_gA; have S_gF := n_S_gF; have S_gE := n_S_gE; have HB := n_HB; clear n_S_gA n_S_gF n_S_gE n_HB; have HO := HO0; clear HO0 hR_ hb_) | ((with_reducible refine gate_dst (N := 8) rfl ?_); refine box_event ?hg (N := 8) ?hd (cs := #[.int .i64 0, .int .i64 0]) (t := 34) ?hr ?_; (case hd => rfl); (case hg => rfl); (case hr => first | (go_simp; done) | (go_simp; rfl)); intro gH hg_ wgH hbox_ hb_; have G_gH := Aside0.mk (show w.heap.size ≤ gH by rw [hg_]; exact below_size HB.out); have N_gA_gH := Aside0.mk (show gA ≠ gH by rw [hg_]; exact Nat.ne_of_lt (blk_lt S_gA.out)); have N_gH_gA := Aside0.mk (show gH ≠ gA by rw [hg_]; exact Nat.ne_of_gt (blk_lt S_gA.out)); have N_gF_gH := Aside0.mk (show gF ≠ gH by rw [hg_]; exact Nat.ne_of_lt (blk_lt S_gF.out)); have N_gH_gF := Aside0.mk (show gH ≠ gF by rw [hg_]; exact Nat.ne_of_gt (blk_lt S_gF.out)); have N_gE_gH := Aside0.mk (show gE ≠ gH by rw [hg_]; exact Nat.ne_of_lt (blk_lt S_gE.out)); have N_gH_gE := Aside0.mk (show gH ≠ gE by rw [hg_]; exact Nat.ne_of_gt (blk_lt S_gE.out)); have n_S_gA := Aside0.mk (blk_below S_gA.out hb_); have n_S_gF := Aside0.mk (blk_below S_gF.out hb_); have n_S_gE := Aside0.mk (blk_below S_gE.out hb_); have n_HO := Aside0.mk (Kd.R_below HO.out hb_); have n_HB := Aside0.mk (below_step HB.out hb_); clear S_gA S_gF S_gE HO HB; have S_gA := n_S_gA; have S_gF := n_S_gF; have S_gE := n_S_gE; have HO := n_HO; have HB := n_HB; clear n_S_gA n_S_gF n_S_gE n_HO n_HB; have S_gH := Aside0.mk hbox_; clear hg_ hbox_ hb_) | ((with_reducible refine gate_store (t := 34) (p := 8) rfl ?_); refine Arr.store_all (T := 34) (p := 8) (g := gH) (old := #[.int .i64 0, .int .i64 0]) (cs := #[.int .i64 x2, .int .i64 x3]) (t := 34) rfl rfl rfl rfl rfl S_gH.out (by kernel_rfl) (by first | rfl | (simp)) (by first | rfl | simp [Value.oneCell']) ?_; intro w4 hs_ hk_ hB_; have n_S_gA := Aside0.mk ((hk_ _ N_gA_gH.out).trans S_gA.out); have n_S_gF := Aside0.mk ((hk_ _ N_gF_gH.out).trans S_gF.out); have n_S_gE := Aside0.mk ((hk_ _ N_gE_gH.out).trans S_gE.out); have n_S_gH := Aside0.mk (hs_); have n_HO := Aside0.mk (Kd.R_mono (Kd.R_step (Kd.R_types HO.out S_gH.out (by decide)) (fun k hk _ => hk_ k hk.2)) (fun _ hk => hk.1)); have n_HB := Aside0.mk (hB_ _ _ HB.out G_gH.out); clear S_gA S_gF S_gE S_gH HO HB; have S_gA := n_S_gA; have S_gF := n_S_gF; have S_gE := n_S_gE; have S_gH := n_S_gH; have HO := n_HO; have HB := n_HB; clear n_S_gA n_S_gF n_S_gE n_S_gH n_HO n_HB; clear hs_ hk_ hB_) | ((with_reducible refine gate_store (t := 41) (p := 4) rfl ?_); refine Arr.store_all (T := 41) (p := 4) (g := gF) (old := #[.int .u8 0, .int .u8 0, .int .u8 0, .int .u8 0, .int .u8 0, .int .u8 0, .int .u8 0, .int .u8 0, .int .u8 0, .int .u8 0, .int .u8 0, .int .u8 0, .int .u8 0, .int .u8 0, .int .u8 0, .int .u8 0]) (cs := #[.int .u8 0, .int .u8 0, .int .u8 0, .int .u8 0, .int .u8 0, .int .u8 0, .int .u8 0, .int .u8 0, .int .u8 0, .int .u8 0, .int .u8 0, .int .u8 0, .int .u8 0, .int .u8 0, .int .u8 0, .int .u8 0]) (t := 41) rfl rfl rfl rfl rfl S_gF.out (by kernel_rfl) (by first | rfl | (simp)) (by first | rfl | simp [Value.oneCell']) ?_; intro w5 hs_ hk_ hB_; have n_S_gA := Aside0.mk ((hk_ _ N_gA_gF.out).trans S_gA.out); have n_S_gF := Aside0.mk (hs_); have n_S_gE := Aside0.mk ((hk_ _ N_gE_gF.out).trans S_gE.out); have n_S_gH := Aside0.mk ((hk_ _ N_gH_gF.out).trans S_gH.out); have n_HO := Aside0.mk (Kd.R_mono (Kd.R_step (Kd.R_types HO.out S_gF.out (by decide)) (fun k hk _ => hk_ k hk.2)) (fun _ hk => hk.1)); have n_HB := Aside0.mk (hB_ _ _ HB.out G_gF.out); clear S_gA S_gF S_gE S_gH HO HB; have S_gA := n_S_gA; have S_gF := n_S_gF; have S_gE := n_S_gE; have S_gH := n_S_gH; have HO := n_HO; have HB := n_HB; clear n_S_gA n_S_gF n_S_gE n_S_gH n_HO n_HB; clear hs_ hk_ hB_) | ((with_reducible refine gate_store (t := 34) (p := 5) rfl ?_); refine Arr.store_all (T := 34) (p := 5) (g := gE) (old := #[.int .i64 0, .int .i64 0]) (cs := #[.int .i64 0, .int .i64 0]) (t := 34) rfl rfl rfl rfl rfl S_gE.out (by kernel_rfl) (by first | rfl | (simp)) (by first | rfl | simp [Value.oneCell']) ?_; intro w6 hs_ hk_ hB_; have n_S_gA := Aside0.mk ((hk_ _ N_gA_gE.out).trans S_gA.out); have n_S_gF := Aside0.mk ((hk_ _ N_gF_gE.out).trans S_gF.out); have n_S_gE := Aside0.mk (hs_); have n_S_gH := Aside0.mk ((hk_ _ N_gH_gE.out).trans S_gH.out); have n_HO := Aside0.mk (Kd.R_mono (Kd.R_step (Kd.R_types HO.out S_gE.out (by decide)) (fun k hk _ => hk_ k hk.2)) (fun _ hk => hk.1)); have n_HB := Aside0.mk (hB_ _ _ HB.out G_gE.out); clear S_gA S_gF S_gE S_gH HO HB; have S_gA := n_S_gA; have S_gF := n_S_gF; have S_gE := n_S_gE; have S_gH := n_S_gH; have HO := n_HO; have HB := n_HB; clear n_S_gA n_S_gF n_S_gE n_S_gH n_HO n_HB; clear hs_ hk_ hB_))
      refine bodyPost_ret (results_list (rs := [.cell 4 41, .cell 5 34, .tmp 6]) rfl (by simp) (.cell gF 41 #[.int .u8 0, .int .u8 0, .int .u8 0, .int .u8 0, .int .u8 0, .int .u8 0, .int .u8 0, .int .u8 0, .int .u8 0, .int .u8 0, .int .u8 0, .int .u8 0, .int .u8 0, .int .u8 0, .int .u8 0, .int .u8 0] (0, 0) _ rfl S_gF.out Try.underlying41 rfl (by kernel_rfl) (.cell gE 34 #[.int .i64 0, .int .i64 0] (0, 0) _ rfl S_gE.out Try.underlying34 rfl (by kernel_rfl) (.tmp .nil)))) rfl ?_
      exact ⟨rfl, HB.out⟩
  obtain ⟨rfl, cl⟩ := c
  rw [if_pos ⟨rfl, cl⟩] at H
  by_cases cn : 30 ≤ n.length
  case neg => rw [if_neg cn] at H; cases H
  rw [if_pos cn] at H
  simp only [Option.some.injEq, Prod.mk.injEq] at H
  obtain ⟨rfl, rfl, rfl, rfl, rfl, rfl, rfl, rfl, rfl, rfl, rfl, rfl, rfl, rfl, rfl, rfl, rfl, rfl, rfl⟩ := H
  have CN := Aside0.mk cn
  clear cn
  have c2 : (l1.length == 30) = true := by simp; exact cl
  have c2i : ((l1.length : Int) == 30) = true := by simp; omega
  have c3 : ((l1.length : Int) != 30) = false := by simp; omega
  clear cl
  obtain ⟨mf, hmf⟩ : ∃ mf, mf = impl_FrameOf.b0 a0_1 :: (List.range 15).map (fun (j : Nat) => impl_FrameOf.bt n (j : Int)) := ⟨_, rfl⟩
  rw [show ([impl_FrameOf.b0 a0_1, impl_FrameOf.bt n 0, impl_FrameOf.bt n 1, impl_FrameOf.bt n 2, impl_FrameOf.bt n 3, impl_FrameOf.bt n 4, impl_FrameOf.bt n 5, impl_FrameOf.bt n 6, impl_FrameOf.bt n 7, impl_FrameOf.bt n 8, impl_FrameOf.bt n 9, impl_FrameOf.bt n 10, impl_FrameOf.bt n 11, impl_FrameOf.bt n 12, impl_FrameOf.bt n 13, impl_FrameOf.bt n 14] : List Int) = mf from by rw [hmf]; rfl]
  have HM := Aside0.mk (show mf.length = 16 ∧ mf.take 1 = [impl_FrameOf.b0 a0_1] ∧ ∀ j : Nat, j < 15 → mf.getD (j + 1) 0 = impl_FrameOf.bt n (j : Int) by
    rw [hmf]
    refine ⟨by simp, by simp, fun j hj => ?_⟩
    simp [List.getD_eq_getElem?_getD, List.getElem?_range, hj])
  clear hmf
  go_enter Try.func40, Try.ntmps40
  go_upto_region 4 with (first | ((with_reducible refine gate_dst (N := 2) rfl ?_); refine box_event ?hg (N := 2) ?hd (cs := #[.int .i64 a0_0, .int .i64 a0_1]) (t := 34) ?hr ?_; (case hd => rfl); (case hg => rfl); (case hr => first | (go_simp; done) | (go_simp; rfl)); intro gA hg_ wgA hbox_ hb_; have G_gA := Aside0.mk (show w.heap.size ≤ gA by rw [hg_]; exact below_size HB.out); have n_HB := Aside0.mk (below_step HB.out hb_); clear HB; have HB := n_HB; clear n_HB; have S_gA := Aside0.mk hbox_; clear hg_ hbox_ hb_) | ((with_reducible refine gate_dst (N := 4) rfl ?_); refine box_event ?hg (N := 4) ?hd (cs := #[.int .u8 0, .int .u8 0, .int .u8 0, .int .u8 0, .int .u8 0, .int .u8 0, .int .u8 0, .int .u8 0, .int .u8 0, .int .u8 0, .int .u8 0, .int .u8 0, .int .u8 0, .int .u8 0, .int .u8 0, .int .u8 0]) (t := 41) ?hr ?_; (case hd => rfl); (case hg => rfl); (case hr => first | (go_simp; done) | (go_simp; rfl)); intro gF hg_ wgF hbox_ hb_; have G_gF := Aside0.mk (show w.heap.size ≤ gF by rw [hg_]; exact below_size HB.out); have N_gA_gF := Aside0.mk (show gA ≠ gF by rw [hg_]; exact Nat.ne_of_lt (blk_lt S_gA.out)); have N_gF_gA := Aside0.mk (show gF ≠ gA by rw [hg_]; exact Nat.ne_of_gt (blk_lt S_gA.out)); have n_S_gA := Aside0.mk (blk_below S_gA.out hb_); have n_HB := Aside0.mk (below_step HB.out hb_); clear S_gA HB; have S_gA := n_S_gA; have HB := n_HB; clear n_S_gA n_HB; have S_gF := Aside0.mk hbox_; clear hg_ hbox_ hb_) | ((with_reducible refine gate_dst (N := 5) rfl ?_); refine box_event ?hg (N := 5) ?hd (cs := #[.int .i64 0, .int .i64 0]) (t := 34) ?hr ?_; (case hd => rfl); (case hg => rfl); (case hr => first | (go_simp; done) | (go_simp; rfl)); intro gE hg_ wgE hbox_ hb_; have G_gE := Aside0.mk (show w.heap.size ≤ gE by rw [hg_]; exact below_size HB.out); have N_gA_gE := Aside0.mk (show gA ≠ gE by rw [hg_]; exact Nat.ne_of_lt (blk_lt S_gA.out)); have N_gE_gA := Aside0.mk (show gE ≠ gA by rw [hg_]; exact Nat.ne_of_gt (blk_lt S_gA.out)); have N_gF_gE := Aside0.mk (show gF ≠ gE by rw [hg_]; exact Nat.ne_of_lt (blk_lt S_gF.out)); have N_gE_gF := Aside0.mk (show gE ≠ gF by rw [hg_]; exact Nat.ne_of_gt (blk_lt S_gF.out)); have n_S_gA := Aside0.mk (blk_below S_gA.out hb_); have n_S_gF := Aside0.mk (blk_below S_gF.out hb_); have n_HB := Aside0.mk (below_step HB.out hb_); clear S_gA S_gF HB; have S_gA := n_S_gA; have S_gF := n_S_gF; have HB := n_HB; clear n_S_gA n_S_gF n_HB; have S_gE := Aside0.mk hbox_; clear hg_ hbox_ hb_) | ((with_reducible refine gate_dst (N := 13) rfl ?_); refine Arr.load_all rfl rfl rfl rfl S_gA.out hu34 rfl (by kernel_rfl) ?_) | (go_at_call 38; (with_reducible refine (impl_Squeeze.calls k a0_0 a0_1 A1 c1 l1 _ _ _ _ _ (Kd.C_below HR.out HB.out) HC.out A2.out).mono ?_); rintro e w3 ⟨v9, rfl, hR_, hb_⟩; (try refine ⟨_, rfl, ?_⟩); have HO0 := Aside0.mk (Kd.R_lower hR_ (below_size HB.out)); have n_S_gA := Aside0.mk (blk_below S_gA.out hb_); have n_S_gF := Aside0.mk (blk_below S_gF.out hb_); have n_S_gE := Aside0.mk (blk_below S_gE.out hb_); have n_HB := Aside0.mk (below_step HB.out hb_); clear S_gA S_gF S_gE HB; have S_gA := n_S_gA; have S_gF := n_S_gF; have S_gE := n_S_gE; have HB := n_HB; clear n_S_gA n_S_gF n_S_gE n_HB; have HO := HO0; clear HO0 hR_ hb_) | ((with_reducible refine gate_dst (N := 8) rfl ?_); refine box_event ?hg (N := 8) ?hd (cs := #[.int .i64 0, .int .i64 0]) (t := 34) ?hr ?_; (case hd => rfl); (case hg => rfl); (case hr => first | (go_simp; done) | (go_simp; rfl)); intro gH hg_ wgH hbox_ hb_; have G_gH := Aside0.mk (show w.heap.size ≤ gH by rw [hg_]; exact below_size HB.out); have N_gA_gH := Aside0.mk (show gA ≠ gH by rw [hg_]; exact Nat.ne_of_lt (blk_lt S_gA.out)); have N_gH_gA := Aside0.mk (show gH ≠ gA by rw [hg_]; exact Nat.ne_of_gt (blk_lt S_gA.out)); have N_gF_gH := Aside0.mk (show gF ≠ gH by rw [hg_]; exact Nat.ne_of_lt (blk_lt S_gF.out)); have N_gH_gF := Aside0.mk (show gH ≠ gF by rw [hg_]; exact Nat.ne_of_gt (blk_lt S_gF.out)); have N_gE_gH := Aside0.mk (show gE ≠ gH by rw [hg_]; exact Nat.ne_of_lt (blk_lt S_gE.out)); have N_gH_gE := Aside0.mk (show gH ≠ gE by rw [hg_]; exact Nat.ne_of_gt (blk_lt S_gE.out)); have n_S_gA := Aside0.mk (blk_below S_gA.out hb_); have n_S_gF := Aside0.mk (blk_below S_gF.out hb_); have n_S_gE := Aside0.mk (blk_below S_gE.out hb_); have n_HO := Aside0.mk (Kd.R_below HO.out hb_); have n_HB := Aside0.mk (below_step HB.out hb_); clear S_gA S_gF S_gE HO HB; have S_gA := n_S_gA; have S_gF := n_S_gF; have S_gE := n_S_gE; have HO := n_HO; have HB := n_HB; clear n_S_gA n_S_gF n_S_gE n_HO n_HB; have S_gH := Aside0.mk hbox_; clear hg_ hbox_ hb_) | ((with_reducible refine gate_store (t := 34) (p := 8) rfl ?_); refine Arr.store_all (T := 34) (p := 8) (g := gH) (old := #[.int .i64 0, .int .i64 0]) (cs := #[.int .i64 x2, .int .i64 x3]) (t := 34) rfl rfl rfl rfl rfl S_gH.out (by kernel_rfl) (by first | rfl | (simp)) (by first | rfl | simp [Value.oneCell']) ?_; intro w4 hs_ hk_ hB_; have n_S_gA := Aside0.mk ((hk_ _ N_gA_gH.out).trans S_gA.out); have n_S_gF := Aside0.mk ((hk_ _ N_gF_gH.out).trans S_gF.out); have n_S_gE := Aside0.mk ((hk_ _ N_gE_gH.out).trans S_gE.out); have n_S_gH := Aside0.mk (hs_); have n_HO := Aside0.mk (Kd.R_mono (Kd.R_step (Kd.R_types HO.out S_gH.out (by decide)) (fun k hk _ => hk_ k hk.2)) (fun _ hk => hk.1)); have n_HB := Aside0.mk (hB_ _ _ HB.out G_gH.out); clear S_gA S_gF S_gE S_gH HO HB; have S_gA := n_S_gA; have S_gF := n_S_gF; have S_gE := n_S_gE; have S_gH := n_S_gH; have HO := n_HO; have HB := n_HB; clear n_S_gA n_S_gF n_S_gE n_S_gH n_HO n_HB; clear hs_ hk_ hB_))
  have hcA := (blk_cell S_gA.out 1).trans (show (#[Value.int .i64 a0_0, Value.int .i64 a0_1] : Array Value)[1]? = some (.int .i64 a0_1) from rfl)
  obtain ⟨A7, c7, rfl, hle, hC⟩ := Kd.R_reads HO.out
  obtain ⟨ad7, e7, _⟩ := Kd.at_int hC 0 (by decide) (by have := CN.out; omega)
  cases e7
  clear hle hC
  go_wp2_with (first | ((with_reducible refine gate_dst (N := 10) rfl ?_); refine box_event ?hg (N := 10) ?hd (cs := #[.int .u8 0, .int .u8 0, .int .u8 0, .int .u8 0, .int .u8 0, .int .u8 0, .int .u8 0, .int .u8 0, .int .u8 0, .int .u8 0, .int .u8 0, .int .u8 0, .int .u8 0, .int .u8 0, .int .u8 0, .int .u8 0]) (t := 41) ?hr ?_; (case hd => rfl); (case hg => rfl); (case hr => first | (go_simp; done) | (go_simp; rfl)); intro gB hg_ wgB hbox_ hb_; have G_gB := Aside0.mk (show w.heap.size ≤ gB by rw [hg_]; exact below_size HB.out); have N_gA_gB := Aside0.mk (show gA ≠ gB by rw [hg_]; exact Nat.ne_of_lt (blk_lt S_gA.out)); have N_gB_gA := Aside0.mk (show gB ≠ gA by rw [hg_]; exact Nat.ne_of_gt (blk_lt S_gA.out)); have N_gF_gB := Aside0.mk (show gF ≠ gB by rw [hg_]; exact Nat.ne_of_lt (blk_lt S_gF.out)); have N_gB_gF := Aside0.mk (show gB ≠ gF by rw [hg_]; exact Nat.ne_of_gt (blk_lt S_gF.out)); have N_gE_gB := Aside0.mk (show gE ≠ gB by rw [hg_]; exact Nat.ne_of_lt (blk_lt S_gE.out)); have N_gB_gE := Aside0.mk (show gB ≠ gE by rw [hg_]; exact Nat.ne_of_gt (blk_lt S_gE.out)); have N_gH_gB := Aside0.mk (show gH ≠ gB by rw [hg_]; exact Nat.ne_of_lt (blk_lt S_gH.out)); have N_gB_gH := Aside0.mk (show gB ≠ gH by rw [hg_]; exact Nat.ne_of_gt (blk_lt S_gH.out)); have n_S_gA := Aside0.mk (blk_below S_gA.out hb_); have n_S_gF := Aside0.mk (blk_below S_gF.out hb_); have n_S_gE := Aside0.mk (blk_below S_gE.out hb_); have n_S_gH := Aside0.mk (blk_below S_gH.out hb_); have n_HO := Aside0.mk (Kd.R_below HO.out hb_); have n_HB := Aside0.mk (below_step HB.out hb_); clear S_gA S_gF S_gE S_gH HO HB; have S_gA := n_S_gA; have S_gF := n_S_gF; have S_gE := n_S_gE; have S_gH := n_S_gH; have HO := n_HO; have HB := n_HB; clear n_S_gA n_S_gF n_S_gE n_S_gH n_HO n_HB; have S_gB := Aside0.mk hbox_; clear hg_ hbox_ hb_) | ((with_reducible refine gate_store (t := 41) (p := 10) rfl ?_); refine Arr.store_all (T := 41) (p := 10) (g := gB) (old := #[.int .u8 0, .int .u8 0, .int .u8 0, .int .u8 0, .int .u8 0, .int .u8 0, .int .u8 0, .int .u8 0, .int .u8 0, .int .u8 0, .int .u8 0, .int .u8 0, .int .u8 0, .int .u8 0, .int .u8 0, .int .u8 0]) (cs := #[.int .u8 (impl_FrameOf.b0 a0_1), .int .u8 0, .int .u8 0, .int .u8 0, .int .u8 0, .int .u8 0, .int .u8 0, .int .u8 0, .int .u8 0, .int .u8 0, .int .u8 0, .int .u8 0, .int .u8 0, .int .u8 0, .int .u8 0, .int .u8 0]) (t := 41) rfl rfl rfl rfl rfl S_gB.out (by kernel_rfl) (by first | rfl | (simp)) (by first | rfl | simp [Value.oneCell']) ?_; intro w5 hs_ hk_ hB_; have n_S_gA := Aside0.mk ((hk_ _ N_gA_gB.out).trans S_gA.out); have n_S_gF := Aside0.mk ((hk_ _ N_gF_gB.out).trans S_gF.out); have n_S_gE := Aside0.mk ((hk_ _ N_gE_gB.out).trans S_gE.out); have n_S_gH := Aside0.mk ((hk_ _ N_gH_gB.out).trans S_gH.out); have n_S_gB := Aside0.mk (hs_); have n_HO := Aside0.mk (Kd.R_mono (Kd.R_step (Kd.R_types HO.out S_gB.out (by decide)) (fun k hk _ => hk_ k hk.2)) (fun _ hk => hk.1)); have n_HB := Aside0.mk (hB_ _ _ HB.out G_gB.out); clear S_gA S_gF S_gE S_gH S_gB HO HB; have S_gA := n_S_gA; have S_gF := n_S_gF; have S_gE := n_S_gE; have S_gH := n_S_gH; have S_gB := n_S_gB; have HO := n_HO; have HB := n_HB; clear n_S_gA n_S_gF n_S_gE n_S_gH n_S_gB n_HO n_HB; clear hs_ hk_ hB_))
  have S0 := Aside0.mk (show w5.heap[gB]? = some (.cells (Arr.u8s (mf.take (0 + 1) ++ List.replicate (16 - (0 + 1)) 0)) 41 (0, 0)) by rw [HM.out.2.1]; exact S_gB.out)
  go_loopg [32] 15 (fun g v32 w' => ∃ (x : Int) (i : Nat), v32 = .int .i64 x ∧ Aside0 (x = (i : Int) ∧ i ≤ 15 ∧ g = 15 - i) ∧ Aside0 (w'.heap[gF]? = some (.cells #[.int .u8 0, .int .u8 0, .int .u8 0, .int .u8 0, .int .u8 0, .int .u8 0, .int .u8 0, .int .u8 0, .int .u8 0, .int .u8 0, .int .u8 0, .int .u8 0, .int .u8 0, .int .u8 0, .int .u8 0, .int .u8 0] 41 (0, 0))) ∧ Aside0 (w'.heap[gE]? = some (.cells #[.int .i64 0, .int .i64 0] 34 (0, 0))) ∧ Aside0 (w'.heap[gH]? = some (.cells #[.int .i64 x2, .int .i64 x3] 34 (0, 0))) ∧ Aside0 (w'.heap[gB]? = some (.cells (Arr.u8s (mf.take (i + 1) ++ List.replicate (16 - (i + 1)) 0)) 41 (0, 0))) ∧ Aside0 (Kd.R (Kd.int .i64) 3 w' w.heap.size (fun _ => True) (.slice (some ad7) n.length c7) n) ∧ Aside0 (Below w.heap.size w w'))
  case atStart => exact ⟨0, 0, rfl, ⟨⟨rfl, by decide, rfl⟩⟩, S_gF, S_gE, S_gH, S0, HO, HB⟩
  case round =>
    clear S_gF S_gE S_gH S_gB S0 HO HB S_gA hcA
    try clear c2
    try clear c2i
    try clear c3
    obtain ⟨x, i, rfl, HI, S_gF, S_gE, S_gH, S_gB, HO, HB⟩ := hrel
    by_cases c : i < 15
    · have hi1 := HI.out.1
      have CX := Aside0.mk (show 0 ≤ x ∧ x < 15 by omega)
      have cb : decide (x < 15) = true := decide_eq_true CX.out.2
      have e1 : wrap64 (2 * x) = 2 * x := by have := CX.out; unfold wrap64; omega
      have e2 : wrap64 (2 * x + 1) = 2 * x + 1 := by have := CX.out; unfold wrap64; omega
      have e3 : wrap64 (x + 1) = x + 1 := by have := CX.out; unfold wrap64; omega
      have e4 : IntKind.i64.wrap (2 * x) = 2 * x := by rw [i64_w]; exact e1
      have e5 : IntKind.i64.wrap (2 * x + 1) = 2 * x + 1 := by rw [i64_w]; exact e2
      have e6 : IntKind.i64.wrap (x + 1) = x + 1 := by rw [i64_w]; exact e3
      have p1 : (0 ≤ 2 * x) = True := eq_true (by have := CX.out; omega)
      have q1 : (2 * x < (n.length : Int)) = True := eq_true (by have := CX.out; have := CN.out; omega)
      have p2 : (0 ≤ 2 * x + 1) = True := eq_true (by have := CX.out; omega)
      have q2 : (2 * x + 1 < (n.length : Int)) = True := eq_true (by have := CX.out; have := CN.out; omega)
      have p3 : (0 ≤ x + 1) = True := eq_true (by have := CX.out; omega)
      have q3 : (x + 1 < 16) = True := eq_true (by have := CX.out; omega)
      have HSET := Aside0.mk (show (mf.take (i + 1) ++ List.replicate (16 - (i + 1)) (0 : Int)).set (x + 1).toNat (impl_FrameOf.bt n x) = mf.take (i + 1 + 1) ++ List.replicate (16 - (i + 1 + 1)) 0 by
        have h1 := impl_FrameOf.set_next mf 16 (i + 1) HM.out.1 (by omega)
        rw [HM.out.2.2 i c] at h1
        rw [hi1, show ((i : Int) + 1).toNat = i + 1 by omega]
        exact h1)
      have LB := Aside0.mk (show (mf.take (i + 1) ++ List.replicate (16 - (i + 1)) (0 : Int)).length = 16 by have := HM.out.1; simp; omega)
      clear hi1
      go_upto_region 8 with (fail)
      · refine wp_region_held_drew (S := fun w' => Kd.C (Kd.int .i64) w' (some ad7) n.length n) rfl (Kd.R_reads' (Kd.R_drew HO.out)).2.2 (fun HS => ?_)
        refine Arl.take (i := 0) (v := ?_) rfl (by kernel_rfl) (by kernel_rfl) (by kernel_rfl) (fun _ _ _ h => h) (by rfl) ?_ HS ?_
        rotate_left
        · (intro w0 hS0; obtain ⟨adx, ex, hx⟩ := Kd.at_int hS0 (2 * x) (by have := CX.out; omega) (by have := CX.out; have := CN.out; omega); cases ex; obtain ⟨ady, ey, hy⟩ := Kd.at_int hS0 (2 * x + 1) (by have := CX.out; omega) (by have := CX.out; have := CN.out; omega); cases ey; go_simp; try (with_reducible rfl))
        simp only [Act.put, List.setIfInBounds_toArray, List.set_cons_zero, List.set_cons_succ]
        refine Arl.take (i := 1) (v := ?_) rfl (by kernel_rfl) (by kernel_rfl) (by kernel_rfl) (fun _ _ _ h => h) (by rfl) ?_ HS ?_
        rotate_left
        · (intro w0 hS0; obtain ⟨adx, ex, hx⟩ := Kd.at_int hS0 (2 * x) (by have := CX.out; omega) (by have := CX.out; have := CN.out; omega); cases ex; obtain ⟨ady, ey, hy⟩ := Kd.at_int hS0 (2 * x + 1) (by have := CX.out; omega) (by have := CX.out; have := CN.out; omega); cases ey; go_simp; try (with_reducible rfl))
        simp only [Act.put, List.setIfInBounds_toArray, List.set_cons_zero, List.set_cons_succ]
        refine Arl.take (i := 2) (v := ?_) rfl (by kernel_rfl) (by kernel_rfl) (by kernel_rfl) (fun _ _ _ h => h) (by rfl) ?_ HS ?_
        rotate_left
        · (intro w0 hS0; obtain ⟨adx, ex, hx⟩ := Kd.at_int hS0 (2 * x) (by have := CX.out; omega) (by have := CX.out; have := CN.out; omega); cases ex; obtain ⟨ady, ey, hy⟩ := Kd.at_int hS0 (2 * x + 1) (by have := CX.out; omega) (by have := CX.out; have := CN.out; omega); cases ey; go_simp; try (with_reducible rfl))
        simp only [Act.put, List.setIfInBounds_toArray, List.set_cons_zero, List.set_cons_succ]
        refine Arl.take (i := 3) (v := ?_) rfl (by kernel_rfl) (by kernel_rfl) (by kernel_rfl) (fun _ _ _ h => h) (by rfl) ?_ HS ?_
        rotate_left
        · (intro w0 hS0; obtain ⟨adx, ex, hx⟩ := Kd.at_int hS0 (2 * x) (by have := CX.out; omega) (by have := CX.out; have := CN.out; omega); cases ex; obtain ⟨ady, ey, hy⟩ := Kd.at_int hS0 (2 * x + 1) (by have := CX.out; omega) (by have := CX.out; have := CN.out; omega); cases ey; go_simp; try (with_reducible rfl))
        simp only [Act.put, List.setIfInBounds_toArray, List.set_cons_zero, List.set_cons_succ]
        refine Arl.take (i := 4) (v := ?_) rfl (by kernel_rfl) (by kernel_rfl) (by kernel_rfl) (fun _ _ _ h => h) (by rfl) ?_ HS ?_
        rotate_left
        · (intro w0 hS0; obtain ⟨adx, ex, hx⟩ := Kd.at_int hS0 (2 * x) (by have := CX.out; omega) (by have := CX.out; have := CN.out; omega); cases ex; obtain ⟨ady, ey, hy⟩ := Kd.at_int hS0 (2 * x + 1) (by have := CX.out; omega) (by have := CX.out; have := CN.out; omega); cases ey; go_simp; try (with_reducible rfl))
        simp only [Act.put, List.setIfInBounds_toArray, List.set_cons_zero, List.set_cons_succ]
        refine Arl.take (i := 5) (v := ?_) rfl (by kernel_rfl) (by kernel_rfl) (by kernel_rfl) (fun _ _ _ h => h) (by rfl) ?_ HS ?_
        rotate_left
        · (intro w0 hS0; obtain ⟨adx, ex, hx⟩ := Kd.at_int hS0 (2 * x) (by have := CX.out; omega) (by have := CX.out; have := CN.out; omega); cases ex; obtain ⟨ady, ey, hy⟩ := Kd.at_int hS0 (2 * x + 1) (by have := CX.out; omega) (by have := CX.out; have := CN.out; omega); cases ey; go_simp; try (with_reducible rfl))
        simp only [Act.put, List.setIfInBounds_toArray, List.set_cons_zero, List.set_cons_succ]
        refine Arl.take (i := 6) (v := ?_) rfl (by kernel_rfl) (by kernel_rfl) (by kernel_rfl) (fun _ _ _ h => h) (by rfl) ?_ HS ?_
        rotate_left
        · (intro w0 hS0; obtain ⟨adx, ex, hx⟩ := Kd.at_int hS0 (2 * x) (by have := CX.out; omega) (by have := CX.out; have := CN.out; omega); cases ex; obtain ⟨ady, ey, hy⟩ := Kd.at_int hS0 (2 * x + 1) (by have := CX.out; omega) (by have := CX.out; have := CN.out; omega); cases ey; go_simp; try (with_reducible rfl))
        simp only [Act.put, List.setIfInBounds_toArray, List.set_cons_zero, List.set_cons_succ]
        refine Arl.take (i := 7) (v := ?_) rfl (by kernel_rfl) (by kernel_rfl) (by kernel_rfl) (fun _ _ _ h => h) (by rfl) ?_ HS ?_
        rotate_left
        · (intro w0 hS0; obtain ⟨adx, ex, hx⟩ := Kd.at_int hS0 (2 * x) (by have := CX.out; omega) (by have := CX.out; have := CN.out; omega); cases ex; obtain ⟨ady, ey, hy⟩ := Kd.at_int hS0 (2 * x + 1) (by have := CX.out; omega) (by have := CX.out; have := CN.out; omega); cases ey; go_simp; try (with_reducible rfl))
        simp only [Act.put, List.setIfInBounds_toArray, List.set_cons_zero, List.set_cons_succ]
        refine Arl.take (i := 8) (v := ?_) rfl (by kernel_rfl) (by kernel_rfl) (by kernel_rfl) (fun _ _ _ h => h) (by rfl) ?_ HS ?_
        rotate_left
        · (intro w0 hS0; obtain ⟨adx, ex, hx⟩ := Kd.at_int hS0 (2 * x) (by have := CX.out; omega) (by have := CX.out; have := CN.out; omega); cases ex; obtain ⟨ady, ey, hy⟩ := Kd.at_int hS0 (2 * x + 1) (by have := CX.out; omega) (by have := CX.out; have := CN.out; omega); cases ey; go_simp; try (with_reducible rfl))
        simp only [Act.put, List.setIfInBounds_toArray, List.set_cons_zero, List.set_cons_succ]
        refine Arl.take (i := 9) (v := ?_) rfl (by kernel_rfl) (by kernel_rfl) (by kernel_rfl) (fun _ _ _ h => h) (by rfl) ?_ HS ?_
        rotate_left
        · (intro w0 hS0; obtain ⟨adx, ex, hx⟩ := Kd.at_int hS0 (2 * x) (by have := CX.out; omega) (by have := CX.out; have := CN.out; omega); cases ex; obtain ⟨ady, ey, hy⟩ := Kd.at_int hS0 (2 * x + 1) (by have := CX.out; omega) (by have := CX.out; have := CN.out; omega); cases ey; go_simp; try (with_reducible rfl))
        simp only [Act.put, List.setIfInBounds_toArray, List.set_cons_zero, List.set_cons_succ]
        refine Arl.take (i := 10) (v := ?_) rfl (by kernel_rfl) (by kernel_rfl) (by kernel_rfl) (fun _ _ _ h => h) (by rfl) ?_ HS ?_
        rotate_left
        · (intro w0 hS0; obtain ⟨adx, ex, hx⟩ := Kd.at_int hS0 (2 * x) (by have := CX.out; omega) (by have := CX.out; have := CN.out; omega); cases ex; obtain ⟨ady, ey, hy⟩ := Kd.at_int hS0 (2 * x + 1) (by have := CX.out; omega) (by have := CX.out; have := CN.out; omega); cases ey; go_simp; try (with_reducible rfl))
        simp only [Act.put, List.setIfInBounds_toArray, List.set_cons_zero, List.set_cons_succ]
        refine Arl.take (i := 11) (v := ?_) rfl (by kernel_rfl) (by kernel_rfl) (by kernel_rfl) (fun _ _ _ h => h) (by rfl) ?_ HS ?_
        rotate_left
        · (intro w0 hS0; obtain ⟨adx, ex, hx⟩ := Kd.at_int hS0 (2 * x) (by have := CX.out; omega) (by have := CX.out; have := CN.out; omega); cases ex; obtain ⟨ady, ey, hy⟩ := Kd.at_int hS0 (2 * x + 1) (by have := CX.out; omega) (by have := CX.out; have := CN.out; omega); cases ey; go_simp; try (with_reducible rfl))
        simp only [Act.put, List.setIfInBounds_toArray, List.set_cons_zero, List.set_cons_succ]
        refine Arl.take (i := 12) (v := ?_) rfl (by kernel_rfl) (by kernel_rfl) (by kernel_rfl) (fun _ _ _ h => h) (by rfl) ?_ HS ?_
        rotate_left
        · (intro w0 hS0; obtain ⟨adx, ex, hx⟩ := Kd.at_int hS0 (2 * x) (by have := CX.out; omega) (by have := CX.out; have := CN.out; omega); cases ex; obtain ⟨ady, ey, hy⟩ := Kd.at_int hS0 (2 * x + 1) (by have := CX.out; omega) (by have := CX.out; have := CN.out; omega); cases ey; go_simp; try (with_reducible rfl))
        simp only [Act.put, List.setIfInBounds_toArray, List.set_cons_zero, List.set_cons_succ]
        refine Arl.take (i := 13) (v := ?_) rfl (by kernel_rfl) (by kernel_rfl) (by kernel_rfl) (fun _ _ _ h => h) (by rfl) ?_ HS ?_
        rotate_left
        · (intro w0 hS0; obtain ⟨adx, ex, hx⟩ := Kd.at_int hS0 (2 * x) (by have := CX.out; omega) (by have := CX.out; have := CN.out; omega); cases ex; obtain ⟨ady, ey, hy⟩ := Kd.at_int hS0 (2 * x + 1) (by have := CX.out; omega) (by have := CX.out; have := CN.out; omega); cases ey; go_simp; try (with_reducible rfl))
        simp only [Act.put, List.setIfInBounds_toArray, List.set_cons_zero, List.set_cons_succ]
        refine Arl.take (i := 14) (v := ?_) rfl (by kernel_rfl) (by kernel_rfl) (by kernel_rfl) (fun _ _ _ h => h) (by rfl) ?_ HS ?_
        rotate_left
        · (intro w0 hS0; obtain ⟨adx, ex, hx⟩ := Kd.at_int hS0 (2 * x) (by have := CX.out; omega) (by have := CX.out; have := CN.out; omega); cases ex; obtain ⟨ady, ey, hy⟩ := Kd.at_int hS0 (2 * x + 1) (by have := CX.out; omega) (by have := CX.out; have := CN.out; omega); cases ey; go_simp; try (with_reducible rfl))
        simp only [Act.put, List.setIfInBounds_toArray, List.set_cons_zero, List.set_cons_succ]
        refine Arl.take (i := 15) (v := ?_) rfl (by kernel_rfl) (by kernel_rfl) (by kernel_rfl) (fun _ _ _ h => h) (by rfl) ?_ HS ?_
        rotate_left
        · (intro w0 hS0; obtain ⟨adx, ex, hx⟩ := Kd.at_int hS0 (2 * x) (by have := CX.out; omega) (by have := CX.out; have := CN.out; omega); cases ex; obtain ⟨ady, ey, hy⟩ := Kd.at_int hS0 (2 * x + 1) (by have := CX.out; omega) (by have := CX.out; have := CN.out; omega); cases ey; go_simp; try (with_reducible rfl))
        simp only [Act.put, List.setIfInBounds_toArray, List.set_cons_zero, List.set_cons_succ]
        refine Arl.take (i := 16) (v := ?_) rfl (by kernel_rfl) (by kernel_rfl) (by kernel_rfl) (fun _ _ _ h => h) (by rfl) ?_ HS ?_
        rotate_left
        · (intro w0 hS0; obtain ⟨adx, ex, hx⟩ := Kd.at_int hS0 (2 * x) (by have := CX.out; omega) (by have := CX.out; have := CN.out; omega); cases ex; obtain ⟨ady, ey, hy⟩ := Kd.at_int hS0 (2 * x + 1) (by have := CX.out; omega) (by have := CX.out; have := CN.out; omega); cases ey; go_simp; try (with_reducible rfl))
        simp only [Act.put, List.setIfInBounds_toArray, List.set_cons_zero, List.set_cons_succ]
        have hcB := Arr.cell_of (blk_drew S_gB.out) (x + 1) (by have := CX.out; omega) (by have := CX.out; have := LB.out; omega)
        have hfB := blk_frozen (blk_drew S_gB.out) (x + 1).toNat
        refine wpAnyH_ready (rs := [17]) (by kernel_rfl) (by simp) ?_
        refine AllReadyH.cons (o := _) (Arl.nth_some rfl) (fun K hK => ?_) AllReadyH.nil
        go_simp
        refine hK.out _ _ (Kd.R_reads' (Kd.R_set (Kd.R_drew HO.out) (blk_drew S_gB.out) (by decide) _ _)).2.2 (fun HS => ?_)
        refine wpAnyH_done (by kernel_rfl) ?_ _
        clear hcB hfB HS hK
        go_wp2
        go_roundg (14 - i)
        case measure => have := HI.out; omega
        case rel =>
          have hx := HI.out
          refine ⟨x + 1, i + 1, rfl, ⟨⟨by omega, by omega, by omega⟩⟩, ⟨Arr.blk_other (blk_drew S_gF.out) N_gB_gF.out⟩, ⟨Arr.blk_other (blk_drew S_gE.out) N_gB_gE.out⟩, ⟨Arr.blk_other (blk_drew S_gH.out) N_gB_gH.out⟩, ⟨?_⟩, ⟨Kd.R_set (Kd.R_drew HO.out) (blk_drew S_gB.out) (by decide) _ _⟩, ⟨below_set (below_drew1 HB.out) G_gB.out⟩⟩
          have h1 := Arr.put_of (blk_drew S_gB.out) (x + 1).toNat (impl_FrameOf.bt n x)
          rw [HSET.out] at h1
          exact h1
    · have hi : i = 15 := by have := HI.out.2.1; omega
      have cb : decide (x < 15) = false := decide_eq_false (by have := HI.out.1; omega)
      have SB := Aside0.mk (show wr.heap[gB]? = some (.cells (Arr.u8s mf) 41 (0, 0)) by
        have h1 := S_gB.out
        rw [hi, List.take_of_length_le (by have := HM.out.1; omega)] at h1
        simpa using h1)
      clear c S_gB hi
      have LM := Aside0.mk (show (Arr.u8s mf).size = 16 by rw [Arr.u8s_size]; exact HM.out.1)
      go_upto_region 10 with (fail)
      · refine wp_region_held_drew (S := fun w' => w'.heap[gH]? = some (.cells #[.int .i64 x2, .int .i64 x3] 34 (0, 0)) ∧ w'.heap[gB]? = some (.cells (Arr.u8s mf) 41 (0, 0))) rfl ⟨blk_drew S_gH.out, blk_drew SB.out⟩ (fun HS => ?_)
        refine Arl.take (i := 0) (v := .agg (Arr.u8s mf)) rfl (by kernel_rfl) (by kernel_rfl) (by kernel_rfl) (fun _ _ _ h => h) (by rfl) (fun W hW => impl_FrameOf.load_run rfl rfl hW.2 hu41 rfl (by rw [LM.out]; kernel_rfl)) HS ?_
        simp only [Act.put, List.setIfInBounds_toArray, List.set_cons_zero, List.set_cons_succ]
        refine Arl.take (i := 1) (v := .agg #[.int .i64 x2, .int .i64 x3]) rfl (by kernel_rfl) (by kernel_rfl) (by kernel_rfl) (fun _ _ _ h => h) (by rfl) (fun W hW => impl_FrameOf.load_run rfl rfl hW.1 hu34 rfl (by kernel_rfl)) HS ?_
        simp only [Act.put, List.setIfInBounds_toArray, List.set_cons_zero, List.set_cons_succ]
        refine wpAnyH_ready (rs := [2]) (by kernel_rfl) (by simp) ?_
        refine AllReadyH.cons (o := _) (Arl.nth_some rfl) (fun K hK => ?_) AllReadyH.nil
        refine impl_FrameOf.store_step (by rfl) (T := 41) (p := 4) (g := gF) (old := #[.int .u8 0, .int .u8 0, .int .u8 0, .int .u8 0, .int .u8 0, .int .u8 0, .int .u8 0, .int .u8 0, .int .u8 0, .int .u8 0, .int .u8 0, .int .u8 0, .int .u8 0, .int .u8 0, .int .u8 0, .int .u8 0]) (cs := Arr.u8s mf) (t := 41) rfl rfl rfl rfl (blk_drew S_gF.out) (by rw [LM.out]; kernel_rfl) (by rw [LM.out]; first | done | rfl) (Arr.u8s_one _) ?_
        intro w7 hs_ hk_ hB_
        have T_gF := Aside0.mk hs_
        have T_gE := Aside0.mk ((hk_ _ N_gE_gF.out).trans (blk_drew S_gE.out))
        have T_gH := Aside0.mk ((hk_ _ N_gH_gF.out).trans (blk_drew S_gH.out))
        have T_gB := Aside0.mk ((hk_ _ N_gB_gF.out).trans (blk_drew SB.out))
        have THB := Aside0.mk (hB_ _ _ (below_drew1 HB.out) G_gF.out)
        refine hK.out _ _ ⟨T_gH.out, T_gB.out⟩ (fun HS2 => ?_)
        clear hs_ hk_ hB_ HS hK K S_gF S_gE S_gH SB HB
        refine wpAnyH_ready (rs := [3]) (by kernel_rfl) (by simp) ?_
        refine AllReadyH.cons (o := _) (Arl.nth_some rfl) (fun K hK => ?_) AllReadyH.nil
        refine impl_FrameOf.store_step (by rfl) (T := 34) (p := 5) (g := gE) (old := #[.int .i64 0, .int .i64 0]) (cs := #[.int .i64 x2, .int .i64 x3]) (t := 34) rfl rfl rfl rfl T_gE.out (by kernel_rfl) rfl (by simp [Value.oneCell']) ?_
        intro w8 hs_ hk_ hB_
        have S_gE := Aside0.mk hs_
        have S_gF := Aside0.mk ((hk_ _ N_gF_gE.out).trans T_gF.out)
        have HB := Aside0.mk (hB_ _ _ THB.out G_gE.out)
        refine hK.out _ _ ⟨(hk_ _ N_gH_gE.out).trans T_gH.out, (hk_ _ N_gB_gE.out).trans T_gB.out⟩ (fun HS => ?_)
        clear hs_ hk_ hB_ HS2 hK K T_gF T_gE T_gH T_gB THB
        refine Arl.take (i := 4) (v := .bool true) rfl (by kernel_rfl) (by kernel_rfl) (by kernel_rfl) (fun _ _ _ h => h) (by rfl) (fun W hW => by go_simp) HS ?_
        simp only [Act.put, List.setIfInBounds_toArray, List.set_cons_zero, List.set_cons_succ]
        refine wpAnyH_done (by kernel_rfl) ?_ _
        clear HS
        go_wp2
        refine bodyPost_ret (results_list (rs := [.cell 4 41, .cell 5 34, .tmp 6]) rfl (by simp) (.cell gF 41 (Arr.u8s mf) (0, 0) _ rfl S_gF.out Try.underlying41 rfl (by rw [Arr.u8s_size, HM.out.1]; kernel_rfl) (.cell gE 34 #[.int .i64 x2, .int .i64 x3] (0, 0) _ rfl S_gE.out Try.underlying34 rfl (by kernel_rfl) (.tmp .nil)))) rfl ?_
        exact ⟨rfl, HB.out⟩

/-! ### laws_sameInts: function 43 -/
def laws_sameInts.l0 : Nat → List Int → List Int → Int → Option (Bool)
  | 0, _, _, _ => none
  | k + 1, x0, x1, x5 => if x5 < (x0.length : Int) then (if 0 ≤ x5 then (if x5 < (x1.length : Int) then (if (rd x0 x5) = (rd x1 x5) then (laws_sameInts.l0 k x0 x1 (wrap64 (x5 + 1))) else (some false)) else (none)) else (none)) else (some true)
def laws_sameInts.f (k : Nat) (l0 : List Int) (l1 : List Int) : Option (Bool) := if (l0.length : Int) = (l1.length : Int) then (laws_sameInts.l0 k l0 l1 0) else (some false)
theorem laws_sameInts.mono_l : ∀ k, (∀ y0 y1 y2, LeO (laws_sameInts.l0 k y0 y1 y2) (laws_sameInts.l0 (k + 1) y0 y1 y2))
  | 0 => fun _ _ _ r h => by simp [laws_sameInts.l0] at h
  | k + 1 => by
    have ih0 := laws_sameInts.mono_l k
    · intro y0 y1 y2
      unfold laws_sameInts.l0
      repeat' first
      | (with_reducible exact ih0 _ _ _)
      | (with_reducible exact LeO.refl _)
      | (with_reducible exact LeO.none _)
      | (with_reducible refine LeO.ite ?_ ?_)
      | (with_reducible refine LeO.bind ?_ (fun _ => ?_))
      | exact ih0 _ _ _
      | exact LeO.none _
      | refine LeO.ite ?_ ?_
      | refine LeO.bind ?_ (fun _ => ?_)
theorem laws_sameInts.mono : ∀ a0 a1 k, LeO (laws_sameInts.f k a0 a1) (laws_sameInts.f (k + 1) a0 a1) := by
  intro a0 a1 k
  have ih0 := laws_sameInts.mono_l k
  unfold laws_sameInts.f
  repeat' first
      | (with_reducible exact ih0 _ _ _)
      | (with_reducible exact LeO.refl _)
      | (with_reducible exact LeO.none _)
      | (with_reducible refine LeO.ite ?_ ?_)
      | (with_reducible refine LeO.bind ?_ (fun _ => ?_))
      | exact ih0 _ _ _
      | exact LeO.none _
      | refine LeO.ite ?_ ?_
      | refine LeO.bind ?_ (fun _ => ?_)
set_option maxHeartbeats 8000000 in
set_option maxRecDepth 100000 in
theorem laws_sameInts.calls (k : Nat) (A0 : Option Addr) (c0 : Nat) (l0 : List Int) (A1 : Option Addr) (c1 : Nat) (l1 : List Int) (r : Bool) (w : World) (hr0 : Kd.C (Kd.int .i64) w A0 l0.length l0) (hc0 : l0.length ≤ c0) (hr1 : Kd.C (Kd.int .i64) w A1 l1.length l1) (hc1 : l1.length ≤ c1) (h : laws_sameInts.f k l0 l1 = some r) :
    Calls Try.prog 43 #[.slice A0 l0.length c0, .slice A1 l1.length c1] w fun e w' => e = .returned (.bool r) ∧ Drawn0 w w' := by
  have HR0 := Aside0.mk hr0
  have HC0 := Aside0.mk hc0
  clear hr0 hc0
  have HR1 := Aside0.mk hr1
  have HC1 := Aside0.mk hc1
  clear hr1 hc1
  have H : (if (l0.length : Int) = (l1.length : Int) then (laws_sameInts.l0 k l0 l1 0) else (some false)) = some r := h
  clear h
  by_cases c3 : (l0.length : Int) = (l1.length : Int)
  · rw [if_pos c3] at H
    have c3b0 : ((l0.length : Int) == (l1.length : Int)) = true := beq_iff_eq.mpr c3
    have c3b1 : ((l0.length : Int) != (l1.length : Int)) = false := bne_eq_false_iff_eq.mpr c3
    have c3b2 : (l0.length == l1.length) = true := by first | simpa using c3 | (simp at c3 ⊢; omega)
    clear c3
    have H' := Aside0.mk H
    clear H
    go_enter Try.func43, Try.ntmps43
    go_wp2
    repeat (go_quiet (fail); try go_wp2)
    go_loopg [5] k (fun kq v5 w' => ∃ (x5_1 : Int), v5 = .int .i64 x5_1 ∧ Aside0 (laws_sameInts.l0 kq l0 l1 x5_1 = some r) ∧ Aside0 (kq ≤ k) ∧ Drawn0 w w')
    case atStart => exact ⟨(0), (by first | rfl | (simp; done) | (simp [*]; done)), H', ⟨Nat.le_refl _⟩, by repeat (first | exact Drawn0.refl _ | apply Drawn0.step)⟩
    case round =>
      clear H'
      try clear c1
      try clear p2
      try clear c3
      try clear c3b0
      try clear c3b1
      try clear c3b2
      obtain ⟨x5_1, rfl, HA, HK1, ⟨m1, rfl⟩⟩ := hrel
      cases gk with
      | zero => exact absurd HA.out (by simp [laws_sameInts.l0])
      | succ k1 =>
        have H := HA.out
        clear HA
        simp only [laws_sameInts.l0] at H
        by_cases c4 : x5_1 < (l0.length : Int)
        · rw [if_pos c4] at H
          have c4b0 : decide (x5_1 < (l0.length : Int)) = true := decide_eq_true c4
          clear c4
          by_cases c5 : 0 ≤ x5_1
          · rw [if_pos c5] at H
            have c5b0 : decide (0 ≤ x5_1) = true := decide_eq_true c5
            clear c5
            by_cases c6 : x5_1 < (l1.length : Int)
            · rw [if_pos c6] at H
              have c6b0 : decide (x5_1 < (l1.length : Int)) = true := decide_eq_true c6
              clear c6
              by_cases c7 : (rd l0 x5_1) = (rd l1 x5_1)
              · rw [if_pos c7] at H
                have c7b0 : ((rd l0 x5_1) == (rd l1 x5_1)) = true := beq_iff_eq.mpr c7
                have c7b1 : ((rd l0 x5_1) != (rd l1 x5_1)) = false := bne_eq_false_iff_eq.mpr c7
                clear c7
                have H' := Aside0.mk H
                clear H
                have p197 : 0 ≤ (x5_1 : Int) := of_decide_eq_true (by first | (with_reducible assumption) | assumption)
                have q197 : x5_1 < (l0.length : Int) := of_decide_eq_true (by first | (with_reducible assumption) | assumption)
                obtain ⟨ad197, e197, hx197_0⟩ := Kd.at_int HR0.out x5_1 p197 q197
                cases e197
                replace p197 := eq_true p197
                replace q197 := eq_true q197
                have p198 : 0 ≤ (x5_1 : Int) := of_decide_eq_true (by first | (with_reducible assumption) | assumption)
                have q198 : x5_1 < (l1.length : Int) := of_decide_eq_true (by first | (with_reducible assumption) | assumption)
                obtain ⟨ad198, e198, hx198_0⟩ := Kd.at_int HR1.out x5_1 p198 q198
                cases e198
                replace p198 := eq_true p198
                replace q198 := eq_true q198
                go_wp2
                repeat (go_quiet (fail); try go_wp2)
                go_roundg k1
                case measure => have := HK1.out; omega
                case rel => exact ⟨(wrap64 (x5_1 + 1)), (by first | rfl | (simp; done) | (simp [*]; done)), H', ⟨by have := HK1.out; omega⟩, by repeat (first | exact Drawn0.refl _ | apply Drawn0.step)⟩
              · rw [if_neg c7] at H
                have c7b0 : ((rd l0 x5_1) == (rd l1 x5_1)) = false := beq_eq_false_iff_ne.mpr c7
                have c7b1 : ((rd l0 x5_1) != (rd l1 x5_1)) = true := bne_iff_ne.mpr c7
                obtain rfl := Option.some.inj H
                have p197 : 0 ≤ (x5_1 : Int) := of_decide_eq_true (by first | (with_reducible assumption) | assumption)
                have q197 : x5_1 < (l0.length : Int) := of_decide_eq_true (by first | (with_reducible assumption) | assumption)
                obtain ⟨ad197, e197, hx197_0⟩ := Kd.at_int HR0.out x5_1 p197 q197
                cases e197
                replace p197 := eq_true p197
                replace q197 := eq_true q197
                have p198 : 0 ≤ (x5_1 : Int) := of_decide_eq_true (by first | (with_reducible assumption) | assumption)
                have q198 : x5_1 < (l1.length : Int) := of_decide_eq_true (by first | (with_reducible assumption) | assumption)
                obtain ⟨ad198, e198, hx198_0⟩ := Kd.at_int HR1.out x5_1 p198 q198
                cases e198
                replace p198 := eq_true p198
                replace q198 := eq_true q198
                go_wp2
                repeat (go_quiet (fail); try go_wp2)
                go_ret
                exact ⟨by first | rfl | (simp; done) | (simp [*]; done), by repeat (first | exact Drawn0.refl _ | apply Drawn0.step)⟩
            · rw [if_neg c6] at H
              exact absurd H (by simp)
          · rw [if_neg c5] at H
            exact absurd H (by simp)
        · rw [if_neg c4] at H
          have c4b0 : decide (x5_1 < (l0.length : Int)) = false := decide_eq_false c4
          clear c4
          obtain rfl := Option.some.inj H
          go_wp2
          repeat (go_quiet (fail); try go_wp2)
          go_ret
          exact ⟨by first | rfl | (simp; done) | (simp [*]; done), by repeat (first | exact Drawn0.refl _ | apply Drawn0.step)⟩
  · rw [if_neg c3] at H
    have c3b0 : ((l0.length : Int) == (l1.length : Int)) = false := beq_eq_false_iff_ne.mpr c3
    have c3b1 : ((l0.length : Int) != (l1.length : Int)) = true := bne_iff_ne.mpr c3
    have c3b2 : (l0.length == l1.length) = false := by first | simpa using c3 | (simp at c3 ⊢; omega)
    obtain rfl := Option.some.inj H
    go_enter Try.func43, Try.ntmps43
    go_wp2
    repeat (go_quiet (fail); try go_wp2)
    go_ret
    exact ⟨by first | rfl | (simp; done) | (simp [*]; done), by repeat (first | exact Drawn0.refl _ | apply Drawn0.step)⟩

end Go.Proofs.Yteaelhdcmnhcbaa.PFnFramed
