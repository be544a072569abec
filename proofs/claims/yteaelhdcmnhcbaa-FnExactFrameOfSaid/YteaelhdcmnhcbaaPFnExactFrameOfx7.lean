-- laid by a program of this session (wip/lay/lay.py); Lean checks it
import Derived.Test.YteaelhdcmnhcbaaPFnExactFrameOfx0
import Derived.Test.YteaelhdcmnhcbaaPFnExactFrameOfx6
namespace Go.Proofs.Yteaelhdcmnhcbaa.PFnExactFrameOf
open Go.RowKit Go.Proofs.YteaelhdcmnhcbaaW.PrintWords Go.Proofs.YteaelhdcmnhcbaaW.PrintLast Go.Proofs.YteaelhdcmnhcbaaW.PrintMore
attribute [local go_sem] max2_int min2_int max_two min_two max_three min_three max_four min_four   -- for this text's walks alone
set_option linter.unusedVariables false
set_option linter.unusedSimpArgs false

/-! ### impl_FrameOf: function 40 -/
def impl_FrameOf.bt (n : List Int) (j : Int) : Int := IntKind.u8.wrap (wrap64 (wrap64 (16 * rd n (2 * j)) + rd n (2 * j + 1)))
def impl_FrameOf.b0 (s : Int) : Int := IntKind.u8.wrap s
theorem impl_FrameOf.list (r1 r2 r3 r4 r5 r6 r7 r8 r9 r10 r11 r12 r13 r14 r15 r16 : Int) : (#[.int .u8 r1, .int .u8 r2, .int .u8 r3, .int .u8 r4, .int .u8 r5, .int .u8 r6, .int .u8 r7, .int .u8 r8, .int .u8 r9, .int .u8 r10, .int .u8 r11, .int .u8 r12, .int .u8 r13, .int .u8 r14, .int .u8 r15, .int .u8 r16] : Array Value) = Arr.u8s [r1, r2, r3, r4, r5, r6, r7, r8, r9, r10, r11, r12, r13, r14, r15, r16] := rfl
theorem impl_FrameOf.set_next (l : List Int) (n i : Nat) (hl : l.length = n) (hi : i < n) : (l.take i ++ List.replicate (n - i) (0 : Int)).set i (l.getD i 0) = l.take (i + 1) ++ List.replicate (n - (i + 1)) (0 : Int) := by
  apply List.ext_getElem?
  intro j
  by_cases hj : j = i
  · subst hj
    rw [List.getElem?_set_self (by simp; omega), List.getElem?_append_left (by simp; omega), List.getElem?_take_of_lt (by omega), List.getElem?_eq_getElem (by omega)]
    simp [List.getD_eq_getElem?_getD, List.getElem?_eq_getElem (show j < l.length by omega)]
  · rw [List.getElem?_set_ne (by omega)]
    by_cases h1 : j < i
    · rw [List.getElem?_append_left (by simp; omega), List.getElem?_append_left (by simp; omega), List.getElem?_take_of_lt h1, List.getElem?_take_of_lt (by omega)]
    · rw [List.getElem?_append_right (by simp; omega), List.getElem?_append_right (by simp; omega), List.getElem?_replicate, List.getElem?_replicate]
      simp only [List.length_take]
      split <;> split <;> first | rfl | omega
section
variable {P : Program} {ops : Array Oper} {o : Oper} {a : Act} {Q : Exit → Act → World → Prop} {W : World} {Kc : Act → World → Prop}
theorem impl_FrameOf.load_run {T : TypeId} {p : Tmp} (ho : o.op = .load T (.tmp p)) {g : Nat} {cs : Array Value} {t : TypeId} {fr : Nat × Nat} {d : TypeDesc}
    (hp : a.eval (.tmp p) = .pointer (some ⟨g, 0, none⟩)) (hb : W.heap[g]? = some (.cells cs t fr)) (hu : P.underlying T = some d) (hr : (match d with | .struct _ | .array _ _ => true | _ => false) = true)
    (hi : (P.info? T).map (·.size) = some cs.size) : (execOp a.eval o).run P W = .ok (.value (.agg cs)) W := by
  have hrun : (Instr.loadAt T (.pointer (some ⟨g, 0, none⟩))).run P W = .ok (.agg cs) W := by
    simp only [Instr.loadAt, Instr.sureAddr, Sem.run_bind, Sem.run_pure, Result.andThen_ok, run_loadVar_row W g t T cs fr d hb hu hr hi]
  simp only [execOp, ho, hp]
  simp [hrun, Result.andThen]
theorem impl_FrameOf.store_step (hw : Region.wanted o (yielded ops a.tmps) = true) {T : TypeId} {p : Tmp} {v : Operand} (ho : o.op = .store T (.tmp p) v) (hN : o.dst = none) {g : Nat} {old cs : Array Value} {t : TypeId}
    (hp : a.eval (.tmp p) = .pointer (some ⟨g, 0, none⟩)) (hv : a.eval v = .agg cs) (hb : W.heap[g]? = some (.cells old t (0, 0))) (hi : (P.info? T).map (·.size) = some cs.size) (hs : old.size = cs.size)
    (h1 : cs.all (·.oneCell') = true)
    (h : ∀ w', w'.heap[g]? = some (.cells cs t (0, 0)) → (∀ k, k ≠ g → w'.heap[k]? = W.heap[k]?) → (∀ (B : Nat) (w0 : World), Below B w0 W → B ≤ g → Below B w0 w') → Kc a w') :
    if Region.wanted o (yielded ops a.tmps) = true then Oper.wp P o a W Kc Q else Kc (a.put o.dst undef) W := by
  rw [if_pos hw]
  have hrun : (Instr.storeAt T (.pointer (some ⟨g, 0, none⟩)) (.agg cs)).run P W = .ok () (W.setRow g cs) := by
    simp only [Instr.storeAt, Instr.sureAddr, Sem.run_bind, Sem.run_pure, Result.andThen_ok, run_storeVar_row W g t T old cs hb hi hs h1]
  have hrow : (W.setRow g cs).heap[g]? = some (.cells cs t (0, 0)) := by
    simp [World.setRow, Array.getElem?_modify, hb]
  have hexec : (execOp a.eval o).run P W = .ok .skip (W.setRow g cs) := by
    simp only [execOp, ho, hp, hv]
    simp [hrun, Result.andThen]
  unfold Oper.wp
  rw [hexec]
  show Kc (a.put o.dst undef) (W.setRow g cs)
  rw [hN]
  exact h _ hrow (fun k hk => setRow_other W g k cs hk) (fun B w0 hB hg => below_setRow hB hg cs)
end
def impl_FrameOf.f (k : Nat) (a0_0 a0_1 : Int) (l1 : List Int) : Option (Int × Int × Int × Int × Int × Int × Int × Int × Int × Int × Int × Int × Int × Int × Int × Int × Int × Int × Bool) := (impl_Squeeze.f k a0_0 a0_1 l1).bind fun bt => if bt.2.2.2 = true ∧ l1.length = 30 then (if 30 ≤ bt.1.length then some (impl_FrameOf.b0 a0_1, impl_FrameOf.bt bt.1 0, impl_FrameOf.bt bt.1 1, impl_FrameOf.bt bt.1 2, impl_FrameOf.bt bt.1 3, impl_FrameOf.bt bt.1 4, impl_FrameOf.bt bt.1 5, impl_FrameOf.bt bt.1 6, impl_FrameOf.bt bt.1 7, impl_FrameOf.bt bt.1 8, impl_FrameOf.bt bt.1 9, impl_FrameOf.bt bt.1 10, impl_FrameOf.bt bt.1 11, impl_FrameOf.bt bt.1 12, impl_FrameOf.bt bt.1 13, impl_FrameOf.bt bt.1 14, bt.2.1, bt.2.2.1, true) else none) else some (0, 0, 0, 0, 0, 0, 0, 0, 0, 0, 0, 0, 0, 0, 0, 0, 0, 0, false)
theorem impl_FrameOf.mono : ∀ a0_0 a0_1 l1 k, LeO (impl_FrameOf.f k a0_0 a0_1 l1) (impl_FrameOf.f (k + 1) a0_0 a0_1 l1) := by
  intro a0_0 a0_1 l1 k
  unfold impl_FrameOf.f
  exact LeO.bind (impl_Squeeze.mono _ _ _ _) (fun _ => LeO.refl _)
set_option maxHeartbeats 8000000 in
set_option maxRecDepth 100000 in
theorem impl_FrameOf.calls (k : Nat) (a0_0 a0_1 : Int) (A1 : Option Addr) (c1 : Nat) (l1 : List Int) (r1 r2 r3 r4 r5 r6 r7 r8 r9 r10 r11 r12 r13 r14 r15 r16 r17 r18 : Int) (r19 : Bool) (w : World) (hr1 : Kd.C (Kd.int .i64) w A1 l1.length l1) (hc1 : l1.length ≤ c1) (h : impl_FrameOf.f k a0_0 a0_1 l1 = some (r1, r2, r3, r4, r5, r6, r7, r8, r9, r10, r11, r12, r13, r14, r15, r16, r17, r18, r19)) :
    Calls Try.prog 40 #[.agg #[.int .i64 a0_0, .int .i64 a0_1], .slice A1 l1.length c1] w fun e w' => e = .returned (.tuple #[.agg #[.int .u8 r1, .int .u8 r2, .int .u8 r3, .int .u8 r4, .int .u8 r5, .int .u8 r6, .int .u8 r7, .int .u8 r8, .int .u8 r9, .int .u8 r10, .int .u8 r11, .int .u8 r12, .int .u8 r13, .int .u8 r14, .int .u8 r15, .int .u8 r16], .agg #[.int .i64 r17, .int .i64 r18], .bool r19]) ∧ Below w.heap.size w w' := by
  have hu41 := Try.underlying41
  have hu34 := Try.underlying34
  have HB := Aside0.mk (Below.refl w.heap.size w)
  have HR := Aside0.mk hr1
  have HC := Aside0.mk hc1
  clear hr1 hc1
  rw [impl_FrameOf.f] at h
  obtain ⟨⟨n, x2, x3, x4⟩, A20, H⟩ := Option.bind_eq_some_iff.mp h
  have A2 := Aside0.mk A20
  clear h A20
  replace H : (if x4 = true ∧ l1.length = 30 then (if 30 ≤ n.length then some (impl_FrameOf.b0 a0_1, impl_FrameOf.bt n 0, impl_FrameOf.bt n 1, impl_FrameOf.bt n 2, impl_FrameOf.bt n 3, impl_FrameOf.bt n 4, impl_FrameOf.bt n 5, impl_FrameOf.bt n 6, impl_FrameOf.bt n 7, impl_FrameOf.bt n 8, impl_FrameOf.bt n 9, impl_FrameOf.bt n 10, impl_FrameOf.bt n 11, impl_FrameOf.bt n 12, impl_FrameOf.bt n 13, impl_FrameOf.bt n 14, x2, x3, true) else none) else some (0, 0, 0, 0, 0, 0, 0, 0, 0, 0, 0, 0, 0, 0, 0, 0, 0, 0, false)) = some (r1, r2, r3, r4, r5, r6, r7, r8, r9, r10, r11, r12, r13, r14, r15, r16, r17, r18, r19) := H
  rw [impl_FrameOf.list r1 r2 r3 r4 r5 r6 r7 r8 r9 r10 r11 r12 r13 r14 r15 r16]
  by_cases c : x4 = true ∧ l1.length = 30
  case neg =>
    rw [if_neg c] at H
    simp only [Option.some.injEq, Prod.mk.injEq] at H
    obtain ⟨rfl, rfl, rfl, rfl, rfl, rfl, rfl, rfl, rfl, rfl, rfl, rfl, rfl, rfl, rfl, rfl, rfl, rfl, rfl⟩ := H
    cases x4 with
    | false =>
      clear c
      go_enter Try.func40, Try.ntmps40
      go_wp2_with (first | ((with_reducible refine gate_dst (N := 2) rfl ?_); refine box_event ?hg (N := 2) ?hd (cs := #[.int .i64 a0_0, .int .i64 a0_1]) (t := 34) ?hr ?_; (case hd => rfl); (case hg => rfl); (case hr => first | (go_simp; done) | (go_simp; rfl)); intro gA hg_ wgA hbox_ hb_; have G_gA := Aside0.mk (show w.heap.size ≤ gA by rw [hg_]; exact below_size HB.out); have n_HB := Aside0.mk (below_step HB.out hb_); clear HB; have HB := n_HB; clear n_HB; have S_gA := Aside0.mk hbox_; clear hg_ hbox_ hb_) | ((with_reducible refine gate_dst (N := 4) rfl ?_); refine box_event ?hg (N := 4) ?hd (cs := #[.int .u8 0, .int .u8 0, .int .u8 0, .int .u8 0, .int .u8 0, .int .u8 0, .int .u8 0, .int .u8 0, .int .u8 0, .int .u8 0, .int .u8 0, .int .u8 0, .int .u8 0, .int .u8 0, .int .u8 0, .int .u8 0]) (t := 41) ?hr ?_; (case hd => rfl); (case hg => rfl); (case hr => first | (go_simp; done) | (go_simp; rfl)); intro gF hg_ wgF hbox_ hb_; have G_gF := Aside0.mk (show w.heap.size ≤ gF by rw [hg_]; exact below_size HB.out); have N_gA_gF := Aside0.mk (show gA ≠ gF by rw [hg_]; exact Nat.ne_of_lt (blk_lt S_gA.out)); have N_gF_gA := Aside0.mk (show gF ≠ gA by rw [hg_]; exact Nat.ne_of_gt (blk_lt S_gA.out)); have n_S_gA := Aside0.mk (blk_below S_gA.out hb_); have n_HB := Aside0.mk (below_step HB.out hb_); clear S_gA HB; have S_gA := n_S_gA; have HB := n_HB; clear n_S_gA n_HB; have S_gF := Aside0.mk hbox_; clear hg_ hbox_ hb_) | ((with_reducible refine gate_dst (N := 5) rfl ?_); refine box_event ?hg (N := 5) ?hd (cs := #[.int .i64 0, .int .i64 0]) (t := 34) ?hr ?_; (case hd => rfl); (case hg => rfl); (case hr => first | (go_simp; done) | (go_simp; rfl)); intro gE hg_ wgE hbox_ hb_; have G_gE := Aside0.mk (show w.heap.size ≤ gE by rw [hg_]; exact below_size HB.out); have N_gA_gE := Aside0.mk (show gA ≠ gE by rw [hg_]; exact Nat.ne_of_lt (blk_lt S_gA.out)); have N_gE_gA := Aside0.mk (show gE ≠ gA by rw [hg_]; exact Nat.ne_of_gt (blk_lt S_gA.out)); have N_gF_gE := Aside0.mk (show gF ≠ gE by rw [hg_]; exact Nat.ne_of_lt (blk_lt S_gF.out)); have N_gE_gF := Aside0.mk (show gE ≠ gF by rw [hg_]; exact Nat.ne_of_gt (blk_lt S_gF.out)); have n_S_gA := Aside0.mk (blk_below S_gA.out hb_); have n_S_gF := Aside0.mk (blk_below S_gF.out hb_); have n_HB := Aside0.mk (below_step HB.out hb_); clear S_gA S_gF HB; have S_gA := n_S_gA; have S_gF := n_S_gF; have HB := n_HB; clear n_S_gA n_S_gF n_HB; have S_gE := Aside0.mk hbox_; clear hg_ hbox_ hb_) | ((with_reducible refine gate_dst (N := 13) rfl ?_); refine Arr.load_all rfl rfl rfl rfl S_gA.out hu34 rfl (by kernel_rfl) ?_) | (go_at_call 38; (with_reducible refine (impl_Squeeze.calls k a0_0 a0_1 A1 c1 l1 _ _ _ _ _ (Kd.C_below HR.out HB.out) HC.out A2.out).mono ?_); rintro e w3 ⟨v9, rfl, hR_, hb_⟩; (try refine ⟨_, rfl, ?_⟩); have HO0 := Aside0.mk (Kd.R_lower hR_ (below_size HB.out)); have n_S_gA := Aside0.mk (blk_below S_gA.out hb_); have n_S_gF := Aside0.mk (blk_below S_gF.out hb_); have n_S_gE := Aside0.mk (blk_below S_gE.out hb_); have n_HB := Aside0.mk (below_step HB.out hb_); clear S_gA S_gF S_gE HB; have S_gA := n_S_gA; have S_gF := n_S_gF; have S_gE := n_S_gE; have HB := n_HB; clear n_S_gA n_S_gF n_S_gE n_HB; have HO := HO0; clear HO0 hR_ hb_) | ((with_reducible refine gate_dst (N := 8) rfl ?_); refine box_event ?hg (N := 8) ?hd (cs := #[.int .i64 0, .int .i64 0]) (t := 34) ?hr ?_; (case hd => rfl); (case hg => rfl); (case hr => first | (go_simp; done) | (go_simp; rfl)); intro gH hg_ wgH hbox_ hb_; have G_gH := Aside0.mk (show w.heap.size ≤ gH by rw [hg_]; exact below_size HB.out); have N_gA_gH := Aside0.mk (show gA ≠ gH by rw [hg_]; exact Nat.ne_of_lt (blk_lt S_gA.out)); have N_gH_gA := Aside0.mk (show gH ≠ gA by rw [hg_]; exact Nat.ne_of_gt (blk_lt S_gA.out)); have N_gF_gH := Aside0.mk (show gF ≠ gH by rw [hg_]; exact Nat.ne_of_lt (blk_lt S_gF.out)); have N_gH_gF := Aside0.mk (show gH ≠ gF by rw [hg_]; exact Nat.ne_of_gt (blk_lt S_gF.out)); have N_gE_gH := Aside0.mk (show gE ≠ gH by rw [hg_]; exact Nat.ne_of_lt (blk_lt S_gE.out)); have N_gH_gE := Aside0.mk (show gH ≠ gE by rw [hg_]; exact Nat.ne_of_gt (blk_lt S_gE.out)); have n_S_gA := Aside0.mk (blk_below S_gA.out hb_); have n_S_gF := Aside0.mk (blk_below S_gF.out hb_); have n_S_gE := Aside0.mk (blk_below S_gE.out hb_); have n_HO := Aside0.mk (Kd.R_below HO.out hb_); have n_HB := Aside0.mk (below_step HB.out hb_); clear S_gA S_gF S_gE HO HB; have S_gA := n_S_gA; have S_gF := n_S_gF; have S_gE := n_S_gE; have HO := n_HO; have HB := n_HB; clear n_S_gA n_S_gF n_S_gE n_HO n_HB; have S_gH := Aside0.mk hbox_; clear hg_ hbox_ hb_) | ((with_reducible refine gate_store (t := 34) (p := 8) rfl ?_); refine Arr.store_all (T := 34) (p := 8) (g := gH) (old := #[.int .i64 0, .int .i64 0]) (cs := #[.int .i64 x2, .int .i64 x3]) (t := 34) rfl rfl rfl rfl rfl S_gH.out (by kernel_rfl) (by first | rfl | (simp)) (by first | rfl | simp [Value.oneCell']) ?_; intro w4 hs_ hk_ hB_; have n_S_gA := Aside0.mk ((hk_ _ N_gA_gH.out).trans S_gA.out); have n_S_gF := Aside0.mk ((hk_ _ N_gF_gH.out).trans S_gF.out); have n_S_gE := Aside0.mk ((hk_ _ N_gE_gH.out).trans S_gE.out); have n_S_gH := Aside0.mk (hs_); have n_HO := Aside0.mk (Kd.R_mono (Kd.R_step (Kd.R_types HO.out S_gH.out (by decide)) (fun k hk _ => hk_ k hk.2)) (fun _ hk => hk.1)); have n_HB := Aside0.mk (hB_ _ _ HB.out G_gH.out); clear S_gA S_gF S_gE S_gH HO HB; have S_gA := n_S_gA; have S_gF := n_S_gF; have S_gE := n_S_gE; have S_gH := n_S_gH; have HO := n_HO; have HB := n_HB; clear n_S_gA n_S_gF n_S_gE n_S_gH n_HO n_HB; clear hs_ hk_ hB_) | ((with_reducible refine gate_store (t := 41) (p := 4) rfl ?_); refine Arr.store_all (T := 41) (p := 4) (g := gF) (old := #[.int .u8 0, .int .u8 0, .int .u8 0, .int .u8 0, .int .u8 0, .int .u8 0, .int .u8 0, .int .u8 0, .int .u8 0, .int .u8 0, .int .u8 0, .int .u8 0, .int .u8 0, .int .u8 0, .int .u8 0, .int .u8 0]) (cs := #[.int .u8 0, .int .u8 0, .int .u8 0, .int .u8 0, .int .u8 0, .int .u8 0, .int .u8 0, .int .u8 0, .int .u8 0, .int .u8 0, .int .u8 0, .int .u8 0, .int .u8 0, .int .u8 0, .int .u8 0, .int .u8 0]) (t := 41) rfl rfl rfl rfl rfl S_gF.out (by kernel_rfl) (by first | rfl | (simp)) (by first | rfl | simp [Value.oneCell']) ?_; intro w5 hs_ hk_ hB_; have n_S_gA := Aside0.mk ((hk_ _ N_gA_gF.out).trans S_gA.out); have n_S_gF := Aside0.mk (hs_); have n_S_gE := Aside0.mk ((hk_ _ N_gE_gF.out).trans S_gE.out); have n_S_gH := Aside0.mk ((hk_ _ N_gH_gF.out).trans S_gH.out); have n_HO := Aside0.mk (Kd.R_mono (Kd.R_step (Kd.R_types HO.out S_gF.out (by decide)) (fun k hk _ => hk_ k hk.2)) (fun _ hk => hk.1)); have n_HB := Aside0.mk (hB_ _ _ HB.out G_gF.out); clear S_gA S_gF S_gE S_gH HO HB; have S_gA := n_S_gA; have S_gF := n_S_gF; have S_gE := n_S_gE; have S_gH := n_S_gH; have HO := n_HO; have HB := n_HB; clear n_S_gA n_S_gF n_S_gE n_S_gH n_HO n_HB; clear hs_ hk_ hB_) | ((with_reducible refine gate_store (t := 34) (p := 5) rfl ?_); refine Arr.store_all (T := 34) (p := 5) (g := gE) (old := #[.int .i64 0, .int .i64 0]) (cs := #[.int .i64 0, .int .i64 0]) (t := 34) rfl rfl rfl rfl rfl S_gE.out (by kernel_rfl) (by first | rfl | (simp)) (by first | rfl | simp [Value.oneCell']) ?_; intro w6 hs_ hk_ hB_; have n_S_gA := Aside0.mk ((hk_ _ N_gA_gE.out).trans S_gA.out); have n_S_gF := Aside0.mk ((hk_ _ N_gF_gE.out).trans S_gF.out); have n_S_gE := Aside0.mk (hs_); have n_S_gH := Aside0.mk ((hk_ _ N_gH_gE.out).trans S_gH.out); have n_HO := Aside0.mk (Kd.R_mono (Kd.R_step (Kd.R_types HO.out S_gE.out (by decide)) (fun k hk _ => hk_ k hk.2)) (fun _ hk => hk.1)); have n_HB := Aside0.mk (hB_ _ _ HB.out G_gE.out); clear S_gA S_gF S_gE S_gH HO HB; have S_gA := n_S_gA; have S_gF := n_S_gF; have S_gE := n_S_gE; have S_gH := n_S_gH; have HO := n_HO; have HB := n_HB; clear n_S_gA n_S_gF n_S_gE n_S_gH n_HO n_HB; clear hs_ hk_ hB_))
      refine bodyPost_ret (results_list (rs := [.cell 4 41, .cell 5 34, .tmp 6]) rfl (by simp) (.cell gF 41 #[.int .u8 0, .int .u8 0, .int .u8 0, .int .u8 0, .int .u8 0, .int .u8 0, .int .u8 0, .int .u8 0, .int .u8 0, .int .u8 0, .int .u8 0, .int .u8 0, .int .u8 0, .int .u8 0, .int .u8 0, .int .u8 0] (0, 0) _ rfl S_gF.out Try.underlying41 rfl (by kernel_rfl) (.cell gE 34 #[.int .i64 0, .int .i64 0] (0, 0) _ rfl S_gE.out Try.underlying34 rfl (by kernel_rfl) (.tmp .nil)))) rfl ?_
      exact ⟨rfl, HB.out⟩
    | true =>
      have c2 : (l1.length == 30) = false := by simp at c ⊢; exact c
      have c2i : ((l1.length : Int) == 30) = false := by simp at c ⊢; omega
      have c3 : ((l1.length : Int) != 30) = true := by simp at c ⊢; omega
      clear c
      go_enter Try.func40, Try.ntmps40
      go_wp2_with (first | ((with_reducible refine gate_dst (N := 2) rfl ?_); refine box_event ?hg (N := 2) ?hd (cs := #[.int .i64 a0_0, .int .i64 a0_1]) (t := 34) ?hr ?_; (case hd => rfl); (case hg => rfl); (case hr => first | (go_simp; done) | (go_simp; rfl)); intro gA hg_ wgA hbox_ hb_; have G_gA := Aside0.mk (show w.heap.size ≤ gA by rw [hg_]; exact below_size HB.out); have n_HB := Aside0.mk (below_step HB.out hb_); clear HB; have HB := n_HB; clear n_HB; have S_gA := Aside0.mk hbox_; clear hg_ hbox_ hb_) | ((with_reducible refine gate_dst (N := 4) rfl ?_); refine box_event ?hg (N := 4) ?hd (cs := #[.int .u8 0, .int .u8 0, .int .u8 0, .int .u8 0, .int .u8 0, .int .u8 0, .int .u8 0, .int .u8 0, .int .u8 0, .int .u8 0, .int .u8 0, .int .u8 0, .int .u8 0, .int .u8 0, .int .u8 0, .int .u8 0]) (t := 41) ?hr ?_; (case hd => rfl); (case hg => rfl); (case hr => first | (go_simp; done) | (go_simp; rfl)); intro gF hg_ wgF hbox_ hb_; have G_gF := Aside0.mk (show w.heap.size ≤ gF by rw [hg_]; exact below_size HB.out); have N_gA_gF := Aside0.mk (show gA ≠ gF by rw [hg_]; exact Nat.ne_of_lt (blk_lt S_gA.out)); have N_gF_gA := Aside0.mk (show gF ≠ gA by rw [hg_]; exact Nat.ne_of_gt (blk_lt S_gA.out)); have n_S_gA := Aside0.mk (blk_below S_gA.out hb_); have n_HB := Aside0.mk (below_step HB.out hb_); clear S_gA HB; have S_gA := n_S_gA; have HB := n_HB; clear n_S_gA n_HB; have S_gF := Aside0.mk hbox_; clear hg_ hbox_ hb_) | ((with_reducible refine gate_dst (N := 5) rfl ?_); refine box_event ?hg (N := 5) ?hd (cs := #[.int .i64 0, .int .i64 0]) (t := 34) ?hr ?_; (case hd => rfl); (case hg => rfl); (case hr => first | (go_simp; done) | (go_simp; rfl)); intro gE hg_ wgE hbox_ hb_; have G_gE := Aside0.mk (show w.heap.size ≤ gE by rw [hg_]; exact below_size HB.out); have N_gA_gE := Aside0.mk (show gA ≠ gE by rw [hg_]; exact Nat.ne_of_lt (blk_lt S_gA.out)); have N_gE_gA := Aside0.mk (show gE ≠ gA by rw [hg_]; exact Nat.ne_of_gt (blk_lt S_gA.out)); have N_gF_gE := Aside0.mk (show gF ≠ gE by rw [hg_]; exact Nat.ne_of_lt (blk_lt S_gF.out)); have N_gE_gF := Aside0.mk (show gE ≠ gF by rw [hg_]; exact Nat.ne_of_gt (blk_lt S_gF.out)); have n_S_gA := Aside0.mk (blk_below S_gA.out hb_); have n_S_gF := Aside0.mk (blk_below S_gF.out hb_); have n_HB := Aside0.mk (below_step HB.out hb_); clear S_gA S_gF HB; have S_gA := n_S_gA; have S_gF := n_S_gF; have HB := n_HB; clear n_S_gA n_S_gF n_HB; have S_gE := Aside0.mk hbox_; clear hg_ hbox_ hb_) | ((with_reducible refine gate_dst (N := 13) rfl ?_); refine Arr.load_all rfl rfl rfl rfl S_gA.out hu34 rfl (by kernel_rfl) ?_) | (go_at_call 38; (with_reducible refine (impl_Squeeze.calls k a0_0 a0_1 A1 c1 l1 _ _ _ _ _ (Kd.C_below HR.out HB.out) HC.out A2.out).mono ?_); rintro e w3 ⟨v9, rfl, hR_, hb_⟩; (try refine ⟨_, rfl, ?_⟩); have HO0 := Aside0.mk (Kd.R_lower hR_ (below_size HB.out)); have n_S_gA := Aside0.mk (blk_below S_gA.out hb_); have n_S_gF := Aside0.mk (blk_below S_gF.out hb_); have n_S_gE := Aside0.mk (blk_below S_gE.out hb_); have n_HB := Aside0.mk (below_step HB.out hb_); clear S_gA S_gF S_gE HB; have S_gA := n_S_gA; have S_gF := n_S_gF; have S_gE := n_S_gE; have HB := n_HB; clear n_S_gA n_S_gF n_S_gE n_HB; have HO := HO0; clear HO0 hR_ hb_) | ((with_reducible refine gate_dst (N := 8) rfl ?_); refine box_event ?hg (N := 8) ?hd (cs := #[.int .i64 0, .int .i64 0]) (t := 34) ?hr ?_; (case hd => rfl); (case hg => rfl); (case hr => first | (go_simp; done) | (go_simp; rfl)); intro gH hg_ wgH hbox_ hb_; have G_gH := Aside0.mk (show w.heap.size ≤ gH by rw [hg_]; exact below_size HB.out); have N_gA_gH := Aside0.mk (show gA ≠ gH by rw [hg_]; exact Nat.ne_of_lt (blk_lt S_gA.out)); have N_gH_gA := Aside0.mk (show gH ≠ gA by rw [hg_]; exact Nat.ne_of_gt (blk_lt S_gA.out)); have N_gF_gH := Aside0.mk (show gF ≠ gH by rw [hg_]; exact Nat.ne_of_lt (blk_lt S_gF.out)); have N_gH_gF := Aside0.mk (show gH ≠ gF by rw [hg_]; exact Nat.ne_of_gt (blk_lt S_gF.out)); have N_gE_gH := Aside0.mk (show gE ≠ gH by rw [hg_]; exact Nat.ne_of_lt (blk_lt S_gE.out)); have N_gH_gE := Aside0.mk (show gH ≠ gE by rw [hg_]; exact Nat.ne_of_gt (blk_lt S_gE.out)); have n_S_gA := Aside0.mk (blk_below S_gA.out hb_); have n_S_gF := Aside0.mk (blk_below S_gF.out hb_); have n_S_gE := Aside0.mk (blk_below S_gE.out hb_); have n_HO := Aside0.mk (Kd.R_below HO.out hb_); have n_HB := Aside0.mk (below_step HB.out hb_); clear S_gA S_gF S_gE HO HB; have S_gA := n_S_gA; have S_gF := n_S_gF; have S_gE := n_S_gE; have HO := n_HO; have HB := n_HB; clear n_S_gA n_S_gF n_S_gE n_HO n_HB; have S_gH := Aside0.mk hbox_; clear hg_ hbox_ hb_) | ((with_reducible refine gate_store (t := 34) (p := 8) rfl ?_); refine Arr.store_all (T := 34) (p := 8) (g := gH) (old := #[.int .i64 0, .int .i64 0]) (cs := #[.int .i64 x2, .int .i64 x3]) (t := 34) rfl rfl rfl rfl rfl S_gH.out (by kernel_rfl) (by first | rfl | (simp)) (by first | rfl | simp [Value.oneCell']) ?_; intro w4 hs_ hk_ hB_; have n_S_gA := Aside0.mk ((hk_ _ N_gA_gH.out).trans S_gA.out); have n_S_gF := Aside0.mk ((hk_ _ N_gF_gH.out).trans S_gF.out); have n_S_gE := Aside0.mk ((hk_ _ N_gE_gH.out).trans S_gE.out); have n_S_gH := Aside0.mk (hs_); have n_HO := Aside0.mk (Kd.R_mono (Kd.R_step (Kd.R_types HO.out S_gH.out (by decide)) (fun k hk _ => hk_ k hk.2)) (fun _ hk => hk.1)); have n_HB := Aside0.mk (hB_ _ _ HB.out G_gH.out); clear S_gA S_gF S_gE S_gH HO HB; have S_gA := n_S_gA; have S_gF := n_S_gF; have S_gE := n_S_gE; have S_gH := n_S_gH; have HO := n_HO; have HB := n_HB; clear n_S_gA n_S_gF n_S_gE n_S_gH n_HO n_HB; clear hs_ hk_ hB_) | ((with_reducible refine gate_store (t := 41) (p := 4) rfl ?_); refine Arr.store_all (T := 41) (p := 4) (g := gF) (old := #[.int .u8 0, .int .u8 0, .int .u8 0, .int .u8 0, .int .u8 0, .int .u8 0, .int .u8 0, .int .u8 0, .int .u8 0, .int .u8 0, .int .u8 0, .int .u8 0, .int .u8 0, .int .u8 0, .int .u8 0, .int .u8 0]) (cs := #[.int .u8 0, .int .u8 0, .int .u8 0, .int .u8 0, .int .u8 0, .int .u8 0, .int .u8 0, .int .u8 0, .int .u8 0, .int .u8 0, .int .u8 0, .int .u8 0, .int .u8 0, .int .u8 0, .int .u8 0, .int .u8 0]) (t := 41) rfl rfl rfl rfl rfl S_gF.out (by kernel_rfl) (by first | rfl | (simp)) (by first | rfl | simp [Value.oneCell']) ?_; intro w5 hs_ hk_ hB_; have n_S_gA := Aside0.mk ((hk_ _ N_gA_gF.out).trans S_gA.out); have n_S_gF := Aside0.mk (hs_); have n_S_gE := Aside0.mk ((hk_ _ N_gE_gF.out).trans S_gE.out); have n_S_gH := Aside0.mk ((hk_ _ N_gH_gF.out).trans S_gH.out); have n_HO := Aside0.mk (Kd.R_mono (Kd.R_step (Kd.R_types HO.out S_gF.out (by decide)) (fun k hk _ => hk_ k hk.2)) (fun _ hk => hk.1)); have n_HB := Aside0.mk (hB_ _ _ HB.out G_gF.out); clear S_gA S_gF S_gE S_gH HO HB; have S_gA := n_S_gA; have S_gF := n_S_gF; have S_gE := n_S_gE; have S_gH := n_S_gH; have HO := n_HO; have HB := n_HB; clear n_S_gA n_S_gF n_S_gE n_S_gH n_HO n_HB; clear hs_ hk_ hB_) | ((with_reducible refine gate_store (t := 34) (p := 5) rfl ?_); refine Arr.store_all (T := 34) (p := 5) (g := gE) (old := #[.int .i64 0, .int .i64 0]) (cs := #[.int .i64 0, .int .i64 0]) (t := 34) rfl rfl rfl rfl rfl S_gE.out (by kernel_rfl) (by first | rfl | (simp)) (by first | rfl | simp [Value.oneCell']) ?_; intro w6 hs_ hk_ hB_; have n_S_gA := Aside0.mk ((hk_ _ N_gA_gE.out).trans S_gA.out); have n_S_gF := Aside0.mk ((hk_ _ N_gF_gE.out).trans S_gF.out); have n_S_gE := Aside0.mk (hs_); have n_S_gH := Aside0.mk ((hk_ _ N_gH_gE.out).trans S_gH.out); have n_HO := Aside0.mk (Kd.R_mono (Kd.R_step (Kd.R_types HO.out S_gE.out (by decide)) (fun k hk _ => hk_ k hk.2)) (fun _ hk => hk.1)); have n_HB := Aside0.mk (hB_ _ _ HB.out G_gE.out); clear S_gA S_gF S_gE S_gH HO HB; have S_gA := n_S_gA; have S_gF := n_S_gF; have S_gE := n_S_gE; have S_gH := n_S_gH; have HO := n_HO; have HB := n_HB; clear n_S_gA n_S_gF n_S_gE n_S_gH n_HO n_HB; clear hs_ hk_ hB_))
      refine bodyPost_ret (results_list (rs := [.cell 4 41, .cell 5 34, .tmp 6]) rfl (by simp) (.cell gF 41 #[.int .u8 0, .int .u8 0, .int .u8 0, .int .u8 0, .int .u8 0, .int .u8 0, .int .u8 0, .int .u8 0, .int .u8 0, .int .u8 0, .int .u8 0, .int .u8 0, .int .u8 0, .int .u8 0, .int .u8 0, .int .u8 0] (0, 0) _ rfl S_gF.out Try.underlying41 rfl (by kernel_rfl) (.cell gE 34 #[.int .i64 0, .int .i64 0] (0, 0) _ rfl S_gE.out Try.underlying34 rfl (by kernel_rfl) (.tmp .nil)))) rfl ?_
      exact ⟨rfl, HB.out⟩
  obtain ⟨rfl, cl⟩ := c
  rw [if_pos ⟨rfl, cl⟩] at H
  by_cases cn : 30 ≤ n.length
  case neg => rw [if_neg cn] at H; cases H
  rw [if_pos cn] at H
  simp only [Option.some.injEq, Prod.mk.injEq] at H
  obtain ⟨rfl, rfl, rfl, rfl, rfl, rfl, rfl, rfl, rfl, rfl, rfl, rfl, rfl, rfl, rfl, rfl, rfl, rfl, rfl⟩ := H
  have CN := Aside0.mk cn
  clear cn
  have c2 : (l1.length == 30) = true := by simp; exact cl
  have c2i : ((l1.length : Int) == 30) = true := by simp; omega
  have c3 : ((l1.length : Int) != 30) = false := by simp; omega
  clear cl
  obtain ⟨mf, hmf⟩ : ∃ mf, mf = impl_FrameOf.b0 a0_1 :: (List.range 15).map (fun (j : Nat) => impl_FrameOf.bt n (j : Int)) := ⟨_, rfl⟩
  rw [show ([impl_FrameOf.b0 a0_1, impl_FrameOf.bt n 0, impl_FrameOf.bt n 1, impl_FrameOf.bt n 2, impl_FrameOf.bt n 3, impl_FrameOf.bt n 4, impl_FrameOf.bt n 5, impl_FrameOf.bt n 6, impl_FrameOf.bt n 7, impl_FrameOf.bt n 8, impl_FrameOf.bt n 9, impl_FrameOf.bt n 10, impl_FrameOf.bt n 11, impl_FrameOf.bt n 12, impl_FrameOf.bt n 13, impl_FrameOf.bt n 14] : List Int) = mf from by rw [hmf]; rfl]
  have HM := Aside0.mk (show mf.length = 16 ∧ mf.take 1 = [impl_FrameOf.b0 a0_1] ∧ ∀ j : Nat, j < 15 → mf.getD (j + 1) 0 = impl_FrameOf.bt n (j : Int) by
    rw [hmf]
    refine ⟨by simp, by simp, fun j hj => ?_⟩
    simp [List.getD_eq_getElem?_getD, List.getElem?_range, hj])
  clear hmf
  go_enter Try.func40, Try.ntmps40
  go_upto_region 4 with (first | ((with_reducible refine gate_dst (N := 2) rfl ?_); refine box_event ?hg (N := 2) ?hd (cs := #[.int .i64 a0_0, .int .i64 a0_1]) (t := 34) ?hr ?_; (case hd => rfl); (case hg => rfl); (case hr => first | (go_simp; done) | (go_simp; rfl)); intro gA hg_ wgA hbox_ hb_; have G_gA := Aside0.mk (show w.heap.size ≤ gA by rw [hg_]; exact below_size HB.out); have n_HB := Aside0.mk (below_step HB.out hb_); clear HB; have HB := n_HB; clear n_HB; have S_gA := Aside0.mk hbox_; clear hg_ hbox_ hb_) | ((with_reducible refine gate_dst (N := 4) rfl ?_); refine box_event ?hg (N := 4) ?hd (cs := #[.int .u8 0, .int .u8 0, .int .u8 0, .int .u8 0, .int .u8 0, .int .u8 0, .int .u8 0, .int .u8 0, .int .u8 0, .int .u8 0, .int .u8 0, .int .u8 0, .int .u8 0, .int .u8 0, .int .u8 0, .int .u8 0]) (t := 41) ?hr ?_; (case hd => rfl); (case hg => rfl); (case hr => first | (go_simp; done) | (go_simp; rfl)); intro gF hg_ wgF hbox_ hb_; have G_gF := Aside0.mk (show w.heap.size ≤ gF by rw [hg_]; exact below_size HB.out); have N_gA_gF := Aside0.mk (show gA ≠ gF by rw [hg_]; exact Nat.ne_of_lt (blk_lt S_gA.out)); have N_gF_gA := Aside0.mk (show gF ≠ gA by rw [hg_]; exact Nat.ne_of_gt (blk_lt S_gA.out)); have n_S_gA := Aside0.mk (blk_below S_gA.out hb_); have n_HB := Aside0.mk (below_step HB.out hb_); clear S_gA HB; have S_gA := n_S_gA; have HB := n_HB; clear n_S_gA n_HB; have S_gF := Aside0.mk hbox_; clear hg_ hbox_ hb_) | ((with_reducible refine gate_dst (N := 5) rfl ?_); refine box_event ?hg (N := 5) ?hd (cs := #[.int .i64 0, .int .i64 0]) (t := 34) ?hr ?_; (case hd => rfl); (case hg => rfl); (case hr => first | (go_simp; done) | (go_simp; rfl)); intro gE hg_ wgE hbox_ hb_; have G_gE := Aside0.mk (show w.heap.size ≤ gE by rw [hg_]; exact below_size HB.out); have N_gA_gE := Aside0.mk (show gA ≠ gE by rw [hg_]; exact Nat.ne_of_lt (blk_lt S_gA.out)); have N_gE_gA := Aside0.mk (show gE ≠ gA by rw [hg_]; exact Nat.ne_of_gt (blk_lt S_gA.out)); have N_gF_gE := Aside0.mk (show gF ≠ gE by rw [hg_]; exact Nat.ne_of_lt (blk_lt S_gF.out)); have N_gE_gF := Aside0.mk (show gE ≠ gF by rw [hg_]; exact Nat.ne_of_gt (blk_lt S_gF.out)); have n_S_gA := Aside0.mk (blk_below S_gA.out hb_); have n_S_gF := Aside0.mk (blk_below S_gF.out hb_); have n_HB := Aside0.mk (below_step HB.out hb_); clear S_gA S_gF HB; have S_gA := n_S_gA; have S_gF := n_S_gF; have HB := n_HB; clear n_S_gA n_S_gF n_HB; have S_gE := Aside0.mk hbox_; clear hg_ hbox_ hb_) | ((with_reducible refine gate_dst (N := 13) rfl ?_); refine Arr.load_all rfl rfl rfl rfl S_gA.out hu34 rfl (by kernel_rfl) ?_) | (go_at_call 38; (with_reducible refine (impl_Squeeze.calls k a0_0 a0_1 A1 c1 l1 _ _ _ _ _ (Kd.C_below HR.out HB.out) HC.out A2.out).mono ?_); rintro e w3 ⟨v9, rfl, hR_, hb_⟩; (try refine ⟨_, rfl, ?_⟩); have HO0 := Aside0.mk (Kd.R_lower hR_ (below_size HB.out)); have n_S_gA := Aside0.mk (blk_below S_gA.out hb_); have n_S_gF := Aside0.mk (blk_below S_gF.out hb_); have n_S_gE := Aside0.mk (blk_below S_gE.out hb_); have n_HB := Aside0.mk (below_step HB.out hb_); clear S_gA S_gF S_gE HB; have S_gA := n_S_gA; have S_gF := n_S_gF; have S_gE := n_S_gE; have HB := n_HB; clear n_S_gA n_S_gF n_S_gE n_HB; have HO := HO0; clear HO0 hR_ hb_) | ((with_reducible refine gate_dst (N := 8) rfl ?_); refine box_event ?hg (N := 8) ?hd (cs := #[.int .i64 0, .int .i64 0]) (t := 34) ?hr ?_; (case hd => rfl); (case hg => rfl); (case hr => first | (go_simp; done) | (go_simp; rfl)); intro gH hg_ wgH hbox_ hb_; have G_gH := Aside0.mk (show w.heap.size ≤ gH by rw [hg_]; exact below_size HB.out); have N_gA_gH := Aside0.mk (show gA ≠ gH by rw [hg_]; exact Nat.ne_of_lt (blk_lt S_gA.out)); have N_gH_gA := Aside0.mk (show gH ≠ gA by rw [hg_]; exact Nat.ne_of_gt (blk_lt S_gA.out)); have N_gF_gH := Aside0.mk (show gF ≠ gH by rw [hg_]; exact Nat.ne_of_lt (blk_lt S_gF.out)); have N_gH_gF := Aside0.mk (show gH ≠ gF by rw [hg_]; exact Nat.ne_of_gt (blk_lt S_gF.out)); have N_gE_gH := Aside0.mk (show gE ≠ gH by rw [hg_]; exact Nat.ne_of_lt (blk_lt S_gE.out)); have N_gH_gE := Aside0.mk (show gH ≠ gE by rw [hg_]; exact Nat.ne_of_gt (blk_lt S_gE.out)); have n_S_gA := Aside0.mk (blk_below S_gA.out hb_); have n_S_gF := Aside0.mk (blk_below S_gF.out hb_); have n_S_gE := Aside0.mk (blk_below S_gE.out hb_); have n_HO := Aside0.mk (Kd.R_below HO.out hb_); have n_HB := Aside0.mk (below_step HB.out hb_); clear S_gA S_gF S_gE HO HB; have S_gA := n_S_gA; have S_gF := n_S_gF; have S_gE := n_S_gE; have HO := n_HO; have HB := n_HB; clear n_S_gA n_S_gF n_S_gE n_HO n_HB; have S_gH := Aside0.mk hbox_; clear hg_ hbox_ hb_) | ((with_reducible refine gate_store (t := 34) (p := 8) rfl ?_); refine Arr.store_all (T := 34) (p := 8) (g := gH) (old := #[.int .i64 0, .int .i64 0]) (cs := #[.int .i64 x2, .int .i64 x3]) (t := 34) rfl rfl rfl rfl rfl S_gH.out (by kernel_rfl) (by first | rfl | (simp)) (by first | rfl | simp [Value.oneCell']) ?_; intro w4 hs_ hk_ hB_; have n_S_gA := Aside0.mk ((hk_ _ N_gA_gH.out).trans S_gA.out); have n_S_gF := Aside0.mk ((hk_ _ N_gF_gH.out).trans S_gF.out); have n_S_gE := Aside0.mk ((hk_ _ N_gE_gH.out).trans S_gE.out); have n_S_gH := Aside0.mk (hs_); have n_HO := Aside0.mk (Kd.R_mono (Kd.R_step (Kd.R_types HO.out S_gH.out (by decide)) (fun k hk _ => hk_ k hk.2)) (fun _ hk => hk.1)); have n_HB := Aside0.mk (hB_ _ _ HB.out G_gH.out); clear S_gA S_gF S_gE S_gH HO HB; have S_gA := n_S_gA; have S_gF := n_S_gF; have S_gE := n_S_gE; have S_gH := n_S_gH; have HO := n_HO; have HB := n_HB; clear n_S_gA n_S_gF n_S_gE n_S_gH n_HO n_HB; clear hs_ hk_ hB_))
  have hcA := (blk_cell S_gA.out 1).trans (show (#[Value.int .i64 a0_0, Value.int .i64 a0_1] : Array Value)[1]? = some (.int .i64 a0_1) from rfl)
  obtain ⟨A7, c7, rfl, hle, hC⟩ := Kd.R_reads HO.out
  obtain ⟨ad7, e7, _⟩ := Kd.at_int hC 0 (by decide) (by have := CN.out; omega)
  cases e7
  clear hle hC
  go_wp2_with (first | ((with_reducible refine gate_dst (N := 10) rfl ?_); refine box_event ?hg (N := 10) ?hd (cs := #[.int .u8 0, .int .u8 0, .int .u8 0, .int .u8 0, .int .u8 0, .int .u8 0, .int .u8 0, .int .u8 0, .int .u8 0, .int .u8 0, .int .u8 0, .int .u8 0, .int .u8 0, .int .u8 0, .int .u8 0, .int .u8 0]) (t := 41) ?hr ?_; (case hd => rfl); (case hg => rfl); (case hr => first | (go_simp; done) | (go_simp; rfl)); intro gB hg_ wgB hbox_ hb_; have G_gB := Aside0.mk (show w.heap.size ≤ gB by rw [hg_]; exact below_size HB.out); have N_gA_gB := Aside0.mk (show gA ≠ gB by rw [hg_]; exact Nat.ne_of_lt (blk_lt S_gA.out)); have N_gB_gA := Aside0.mk (show gB ≠ gA by rw [hg_]; exact Nat.ne_of_gt (blk_lt S_gA.out)); have N_gF_gB := Aside0.mk (show gF ≠ gB by rw [hg_]; exact Nat.ne_of_lt (blk_lt S_gF.out)); have N_gB_gF := Aside0.mk (show gB ≠ gF by rw [hg_]; exact Nat.ne_of_gt (blk_lt S_gF.out)); have N_gE_gB := Aside0.mk (show gE ≠ gB by rw [hg_]; exact Nat.ne_of_lt (blk_lt S_gE.out)); have N_gB_gE := Aside0.mk (show gB ≠ gE by rw [hg_]; exact Nat.ne_of_gt (blk_lt S_gE.out)); have N_gH_gB := Aside0.mk (show gH ≠ gB by rw [hg_]; exact Nat.ne_of_lt (blk_lt S_gH.out)); have N_gB_gH := Aside0.mk (show gB ≠ gH by rw [hg_]; exact Nat.ne_of_gt (blk_lt S_gH.out)); have n_S_gA := Aside0.mk (blk_below S_gA.out hb_); have n_S_gF := Aside0.mk (blk_below S_gF.out hb_); have n_S_gE := Aside0.mk (blk_below S_gE.out hb_); have n_S_gH := Aside0.mk (blk_below S_gH.out hb_); have n_HO := Aside0.mk (Kd.R_below HO.out hb_); have n_HB := Aside0.mk (below_step HB.out hb_); clear S_gA S_gF S_gE S_gH HO HB; have S_gA := n_S_gA; have S_gF := n_S_gF; have S_gE := n_S_gE; have S_gH := n_S_gH; have HO := n_HO; have HB := n_HB; clear n_S_gA n_S_gF n_S_gE n_S_gH n_HO n_HB; have S_gB := Aside0.mk hbox_; clear hg_ hbox_ hb_) | ((with_reducible refine gate_store (t := 41) (p := 10) rfl ?_); refine Arr.store_all (T := 41) (p := 10) (g := gB) (old := #[.int .u8 0, .int .u8 0, .int .u8 0, .int .u8 0, .int .u8 0, .int .u8 0, .int .u8 0, .int .u8 0, .int .u8 0, .int .u8 0, .int .u8 0, .int .u8 0, .int .u8 0, .int .u8 0, .int .u8 0, .int .u8 0]) (cs := #[.int .u8 (impl_FrameOf.b0 a0_1), .int .u8 0, .int .u8 0, .int .u8 0, .int .u8 0, .int .u8 0, .int .u8 0, .int .u8 0, .int .u8 0, .int .u8 0, .int .u8 0, .int .u8 0, .int .u8 0, .int .u8 0, .int .u8 0, .int .u8 0]) (t := 41) rfl rfl rfl rfl rfl S_gB.out (by kernel_rfl) (by first | rfl | (simp)) (by first | rfl | simp [Value.oneCell']) ?_; intro w5 hs_ hk_ hB_; have n_S_gA := Aside0.mk ((hk_ _ N_gA_gB.out).trans S_gA.out); have n_S_gF := Aside0.mk ((hk_ _ N_gF_gB.out).trans S_gF.out); have n_S_gE := Aside0.mk ((hk_ _ N_gE_gB.out).trans S_gE.out); have n_S_gH := Aside0.mk ((hk_ _ N_gH_gB.out).trans S_gH.out); have n_S_gB := Aside0.mk (hs_); have n_HO := Aside0.mk (Kd.R_mono (Kd.R_step (Kd.R_types HO.out S_gB.out (by decide)) (fun k hk _ => hk_ k hk.2)) (fun _ hk => hk.1)); have n_HB := Aside0.mk (hB_ _ _ HB.out G_gB.out); clear S_gA S_gF S_gE S_gH S_gB HO HB; have S_gA := n_S_gA; have S_gF := n_S_gF; have S_gE := n_S_gE; have S_gH := n_S_gH; have S_gB := n_S_gB; have HO := n_HO; have HB := n_HB; clear n_S_gA n_S_gF n_S_gE n_S_gH n_S_gB n_HO n_HB; clear hs_ hk_ hB_))
  have S0 := Aside0.mk (show w5.heap[gB]? = some (.cells (Arr.u8s (mf.take (0 + 1) ++ List.replicate (16 - (0 + 1)) 0)) 41 (0, 0)) by rw [HM.out.2.1]; exact S_gB.out)
  go_loopg [32] 15 (fun g v32 w' => ∃ (x : Int) (i : Nat), v32 = .int .i64 x ∧ Aside0 (x = (i : Int) ∧ i ≤ 15 ∧ g = 15 - i) ∧ Aside0 (w'.heap[gF]? = some (.cells #[.int .u8 0, .int .u8 0, .int .u8 0, .int .u8 0, .int .u8 0, .int .u8 0, .int .u8 0, .int .u8 0, .int .u8 0, .int .u8 0, .int .u8 0, .int .u8 0, .int .u8 0, .int .u8 0, .int .u8 0, .int .u8 0] 41 (0, 0))) ∧ Aside0 (w'.heap[gE]? = some (.cells #[.int .i64 0, .int .i64 0] 34 (0, 0))) ∧ Aside0 (w'.heap[gH]? = some (.cells #[.int .i64 x2, .int .i64 x3] 34 (0, 0))) ∧ Aside0 (w'.heap[gB]? = some (.cells (Arr.u8s (mf.take (i + 1) ++ List.replicate (16 - (i + 1)) 0)) 41 (0, 0))) ∧ Aside0 (Kd.R (Kd.int .i64) 3 w' w.heap.size (fun _ => True) (.slice (some ad7) n.length c7) n) ∧ Aside0 (Below w.heap.size w w'))
  case atStart => exact ⟨0, 0, rfl, ⟨⟨rfl, by decide, rfl⟩⟩, S_gF, S_gE, S_gH, S0, HO, HB⟩
  case round =>
    clear S_gF S_gE S_gH S_gB S0 HO HB S_gA hcA
    try clear c2
    try clear c2i
    try clear c3
    obtain ⟨x, i, rfl, HI, S_gF, S_gE, S_gH, S_gB, HO, HB⟩ := hrel
    by_cases c : i < 15
    · have hi1 := HI.out.1
      have CX := Aside0.mk (show 0 ≤ x ∧ x < 15 by omega)
      have cb : decide (x < 15) = true := decide_eq_true CX.out.2
      have e1 : wrap64 (2 * x) = 2 * x := by have := CX.out; unfold wrap64; omega
      have e2 : wrap64 (2 * x + 1) = 2 * x + 1 := by have := CX.out; unfold wrap64; omega
      have e3 : wrap64 (x + 1) = x + 1 := by have := CX.out; unfold wrap64; omega
      have e4 : IntKind.i64.wrap (2 * x) = 2 * x := by rw [i64_w]; exact e1
      have e5 : IntKind.i64.wrap (2 * x + 1) = 2 * x + 1 := by rw [i64_w]; exact e2
      have e6 : IntKind.i64.wrap (x + 1) = x + 1 := by rw [i64_w]; exact e3
      have p1 : (0 ≤ 2 * x) = True := eq_true (by have := CX.out; omega)
      have q1 : (2 * x < (n.length : Int)) = True := eq_true (by have := CX.out; have := CN.out; omega)
      have p2 : (0 ≤ 2 * x + 1) = True := eq_true (by have := CX.out; omega)
      have q2 : (2 * x + 1 < (n.length : Int)) = True := eq_true (by have := CX.out; have := CN.out; omega)
      have p3 : (0 ≤ x + 1) = True := eq_true (by have := CX.out; omega)
      have q3 : (x + 1 < 16) = True := eq_true (by have := CX.out; omega)
      have HSET := Aside0.mk (show (mf.take (i + 1) ++ List.replicate (16 - (i + 1)) (0 : Int)).set (x + 1).toNat (impl_FrameOf.bt n x) = mf.take (i + 1 + 1) ++ List.replicate (16 - (i + 1 + 1)) 0 by
        have h1 := impl_FrameOf.set_next mf 16 (i + 1) HM.out.1 (by omega)
        rw [HM.out.2.2 i c] at h1
        rw [hi1, show ((i : Int) + 1).toNat = i + 1 by omega]
        exact h1)
      have LB := Aside0.mk (show (mf.take (i + 1) ++ List.replicate (16 - (i + 1)) (0 : Int)).length = 16 by have := HM.out.1; simp; omega)
      clear hi1
      go_upto_region 8 with (fail)
      · refine wp_region_held_drew (S := fun w' => Kd.C (Kd.int .i64) w' (some ad7) n.length n) rfl (Kd.R_reads' (Kd.R_drew HO.out)).2.2 (fun HS => ?_)
        refine Arl.take (i := 0) (v := ?_) rfl (by kernel_rfl) (by kernel_rfl) (by kernel_rfl) (fun _ _ _ h => h) (by rfl) ?_ HS ?_
        rotate_left
        · (intro w0 hS0; obtain ⟨adx, ex, hx⟩ := Kd.at_int hS0 (2 * x) (by have := CX.out; omega) (by have := CX.out; have := CN.out; omega); cases ex; obtain ⟨ady, ey, hy⟩ := Kd.at_int hS0 (2 * x + 1) (by have := CX.out; omega) (by have := CX.out; have := CN.out; omega); cases ey; go_simp; try (with_reducible rfl))
        simp only [Act.put, List.setIfInBounds_toArray, List.set_cons_zero, List.set_cons_succ]
        refine Arl.take (i := 1) (v := ?_) rfl (by kernel_rfl) (by kernel_rfl) (by kernel_rfl) (fun _ _ _ h => h) (by rfl) ?_ HS ?_
        rotate_left
        · (intro w0 hS0; obtain ⟨adx, ex, hx⟩ := Kd.at_int hS0 (2 * x) (by have := CX.out; omega) (by have := CX.out; have := CN.out; omega); cases ex; obtain ⟨ady, ey, hy⟩ := Kd.at_int hS0 (2 * x + 1) (by have := CX.out; omega) (by have := CX.out; have := CN.out; omega); cases ey; go_simp; try (with_reducible rfl))
        simp only [Act.put, List.setIfInBounds_toArray, List.set_cons_zero, List.set_cons_succ]
        refine Arl.take (i := 2) (v := ?_) rfl (by kernel_rfl) (by kernel_rfl) (by kernel_rfl) (fun _ _ _ h => h) (by rfl) ?_ HS ?_
        rotate_left
        · (intro w0 hS0; obtain ⟨adx, ex, hx⟩ := Kd.at_int hS0 (2 * x) (by have := CX.out; omega) (by have := CX.out; have := CN.out; omega); cases ex; obtain ⟨ady, ey, hy⟩ := Kd.at_int hS0 (2 * x + 1) (by have := CX.out; omega) (by have := CX.out; have := CN.out; omega); cases ey; go_simp; try (with_reducible rfl))
        simp only [Act.put, List.setIfInBounds_toArray, List.set_cons_zero, List.set_cons_succ]
        refine Arl.take (i := 3) (v := ?_) rfl (by kernel_rfl) (by kernel_rfl) (by kernel_rfl) (fun _ _ _ h => h) (by rfl) ?_ HS ?_
        rotate_left
        · (intro w0 hS0; obtain ⟨adx, ex, hx⟩ := Kd.at_int hS0 (2 * x) (by have := CX.out; omega) (by have := CX.out; have := CN.out; omega); cases ex; obtain ⟨ady, ey, hy⟩ := Kd.at_int hS0 (2 * x + 1) (by have := CX.out; omega) (by have := CX.out; have := CN.out; omega); cases ey; go_simp; try (with_reducible rfl))
        simp only [Act.put, List.setIfInBounds_toArray, List.set_cons_zero, List.set_cons_succ]
        refine Arl.take (i := 4) (v := ?_) rfl (by kernel_rfl) (by kernel_rfl) (by kernel_rfl) (fun _ _ _ h => h) (by rfl) ?_ HS ?_
        rotate_left
        · (intro w0 hS0; obtain ⟨adx, ex, hx⟩ := Kd.at_int hS0 (2 * x) (by have := CX.out; omega) (by have := CX.out; have := CN.out; omega); cases ex; obtain ⟨ady, ey, hy⟩ := Kd.at_int hS0 (2 * x + 1) (by have := CX.out; omega) (by have := CX.out; have := CN.out; omega); cases ey; go_simp; try (with_reducible rfl))
        simp only [Act.put, List.setIfInBounds_toArray, List.set_cons_zero, List.set_cons_succ]
        refine Arl.take (i := 5) (v := ?_) rfl (by kernel_rfl) (by kernel_rfl) (by kernel_rfl) (fun _ _ _ h => h) (by rfl) ?_ HS ?_
        rotate_left
        · (intro w0 hS0; obtain ⟨adx, ex, hx⟩ := Kd.at_int hS0 (2 * x) (by have := CX.out; omega) (by have := CX.out; have := CN.out; omega); cases ex; obtain ⟨ady, ey, hy⟩ := Kd.at_int hS0 (2 * x + 1) (by have := CX.out; omega) (by have := CX.out; have := CN.out; omega); cases ey; go_simp; try (with_reducible rfl))
        simp only [Act.put, List.setIfInBounds_toArray, List.set_cons_zero, List.set_cons_succ]
        refine Arl.take (i := 6) (v := ?_) rfl (by kernel_rfl) (by kernel_rfl) (by kernel_rfl) (fun _ _ _ h => h) (by rfl) ?_ HS ?_
        rotate_left
        · (intro w0 hS0; obtain ⟨adx, ex, hx⟩ := Kd.at_int hS0 (2 * x) (by have := CX.out; omega) (by have := CX.out; have := CN.out; omega); cases ex; obtain ⟨ady, ey, hy⟩ := Kd.at_int hS0 (2 * x + 1) (by have := CX.out; omega) (by have := CX.out; have := CN.out; omega); cases ey; go_simp; try (with_reducible rfl))
        simp only [Act.put, List.setIfInBounds_toArray, List.set_cons_zero, List.set_cons_succ]
        refine Arl.take (i := 7) (v := ?_) rfl (by kernel_rfl) (by kernel_rfl) (by kernel_rfl) (fun _ _ _ h => h) (by rfl) ?_ HS ?_
        rotate_left
        · (intro w0 hS0; obtain ⟨adx, ex, hx⟩ := Kd.at_int hS0 (2 * x) (by have := CX.out; omega) (by have := CX.out; have := CN.out; omega); cases ex; obtain ⟨ady, ey, hy⟩ := Kd.at_int hS0 (2 * x + 1) (by have := CX.out; omega) (by have := CX.out; have := CN.out; omega); cases ey; go_simp; try (with_reducible rfl))
        simp only [Act.put, List.setIfInBounds_toArray, List.set_cons_zero, List.set_cons_succ]
        refine Arl.take (i := 8) (v := ?_) rfl (by kernel_rfl) (by kernel_rfl) (by kernel_rfl) (fun _ _ _ h => h) (by rfl) ?_ HS ?_
        rotate_left
        · (intro w0 hS0; obtain ⟨adx, ex, hx⟩ := Kd.at_int hS0 (2 * x) (by have := CX.out; omega) (by have := CX.out; have := CN.out; omega); cases ex; obtain ⟨ady, ey, hy⟩ := Kd.at_int hS0 (2 * x + 1) (by have := CX.out; omega) (by have := CX.out; have := CN.out; omega); cases ey; go_simp; try (with_reducible rfl))
        simp only [Act.put, List.setIfInBounds_toArray, List.set_cons_zero, List.set_cons_succ]
        refine Arl.take (i := 9) (v := ?_) rfl (by kernel_rfl) (by kernel_rfl) (by kernel_rfl) (fun _ _ _ h => h) (by rfl) ?_ HS ?_
        rotate_left
        · (intro w0 hS0; obtain ⟨adx, ex, hx⟩ := Kd.at_int hS0 (2 * x) (by have := CX.out; omega) (by have := CX.out; have := CN.out; omega); cases ex; obtain ⟨ady, ey, hy⟩ := Kd.at_int hS0 (2 * x + 1) (by have := CX.out; omega) (by have := CX.out; have := CN.out; omega); cases ey; go_simp; try (with_reducible rfl))
        simp only [Act.put, List.setIfInBounds_toArray, List.set_cons_zero, List.set_cons_succ]
        refine Arl.take (i := 10) (v := ?_) rfl (by kernel_rfl) (by kernel_rfl) (by kernel_rfl) (fun _ _ _ h => h) (by rfl) ?_ HS ?_
        rotate_left
        · (intro w0 hS0; obtain ⟨adx, ex, hx⟩ := Kd.at_int hS0 (2 * x) (by have := CX.out; omega) (by have := CX.out; have := CN.out; omega); cases ex; obtain ⟨ady, ey, hy⟩ := Kd.at_int hS0 (2 * x + 1) (by have := CX.out; omega) (by have := CX.out; have := CN.out; omega); cases ey; go_simp; try (with_reducible rfl))
        simp only [Act.put, List.setIfInBounds_toArray, List.set_cons_zero, List.set_cons_succ]
        refine Arl.take (i := 11) (v := ?_) rfl (by kernel_rfl) (by kernel_rfl) (by kernel_rfl) (fun _ _ _ h => h) (by rfl) ?_ HS ?_
        rotate_left
        · (intro w0 hS0; obtain ⟨adx, ex, hx⟩ := Kd.at_int hS0 (2 * x) (by have := CX.out; omega) (by have := CX.out; have := CN.out; omega); cases ex; obtain ⟨ady, ey, hy⟩ := Kd.at_int hS0 (2 * x + 1) (by have := CX.out; omega) (by have := CX.out; have := CN.out; omega); cases ey; go_simp; try (with_reducible rfl))
        simp only [Act.put, List.setIfInBounds_toArray, List.set_cons_zero, List.set_cons_succ]
        refine Arl.take (i := 12) (v := ?_) rfl (by kernel_rfl) (by kernel_rfl) (by kernel_rfl) (fun _ _ _ h => h) (by rfl) ?_ HS ?_
        rotate_left
        · (intro w0 hS0; obtain ⟨adx, ex, hx⟩ := Kd.at_int hS0 (2 * x) (by have := CX.out; omega) (by have := CX.out; have := CN.out; omega); cases ex; obtain ⟨ady, ey, hy⟩ := Kd.at_int hS0 (2 * x + 1) (by have := CX.out; omega) (by have := CX.out; have := CN.out; omega); cases ey; go_simp; try (with_reducible rfl))
        simp only [Act.put, List.setIfInBounds_toArray, List.set_cons_zero, List.set_cons_succ]
        refine Arl.take (i := 13) (v := ?_) rfl (by kernel_rfl) (by kernel_rfl) (by kernel_rfl) (fun _ _ _ h => h) (by rfl) ?_ HS ?_
        rotate_left
        · (intro w0 hS0; obtain ⟨adx, ex, hx⟩ := Kd.at_int hS0 (2 * x) (by have := CX.out; omega) (by have := CX.out; have := CN.out; omega); cases ex; obtain ⟨ady, ey, hy⟩ := Kd.at_int hS0 (2 * x + 1) (by have := CX.out; omega) (by have := CX.out; have := CN.out; omega); cases ey; go_simp; try (with_reducible rfl))
        simp only [Act.put, List.setIfInBounds_toArray, List.set_cons_zero, List.set_cons_succ]
        refine Arl.take (i := 14) (v := ?_) rfl (by kernel_rfl) (by kernel_rfl) (by kernel_rfl) (fun _ _ _ h => h) (by rfl) ?_ HS ?_
        rotate_left
        · (intro w0 hS0; obtain ⟨adx, ex, hx⟩ := Kd.at_int hS0 (2 * x) (by have := CX.out; omega) (by have := CX.out; have := CN.out; omega); cases ex; obtain ⟨ady, ey, hy⟩ := Kd.at_int hS0 (2 * x + 1) (by have := CX.out; omega) (by have := CX.out; have := CN.out; omega); cases ey; go_simp; try (with_reducible rfl))
        simp only [Act.put, List.setIfInBounds_toArray, List.set_cons_zero, List.set_cons_succ]
        refine Arl.take (i := 15) (v := ?_) rfl (by kernel_rfl) (by kernel_rfl) (by kernel_rfl) (fun _ _ _ h => h) (by rfl) ?_ HS ?_
        rotate_left
        · (intro w0 hS0; obtain ⟨adx, ex, hx⟩ := Kd.at_int hS0 (2 * x) (by have := CX.out; omega) (by have := CX.out; have := CN.out; omega); cases ex; obtain ⟨ady, ey, hy⟩ := Kd.at_int hS0 (2 * x + 1) (by have := CX.out; omega) (by have := CX.out; have := CN.out; omega); cases ey; go_simp; try (with_reducible rfl))
        simp only [Act.put, List.setIfInBounds_toArray, List.set_cons_zero, List.set_cons_succ]
        refine Arl.take (i := 16) (v := ?_) rfl (by kernel_rfl) (by kernel_rfl) (by kernel_rfl) (fun _ _ _ h => h) (by rfl) ?_ HS ?_
        rotate_left
        · (intro w0 hS0; obtain ⟨adx, ex, hx⟩ := Kd.at_int hS0 (2 * x) (by have := CX.out; omega) (by have := CX.out; have := CN.out; omega); cases ex; obtain ⟨ady, ey, hy⟩ := Kd.at_int hS0 (2 * x + 1) (by have := CX.out; omega) (by have := CX.out; have := CN.out; omega); cases ey; go_simp; try (with_reducible rfl))
        simp only [Act.put, List.setIfInBounds_toArray, List.set_cons_zero, List.set_cons_succ]
        have hcB := Arr.cell_of (blk_drew S_gB.out) (x + 1) (by have := CX.out; omega) (by have := CX.out; have := LB.out; omega)
        have hfB := blk_frozen (blk_drew S_gB.out) (x + 1).toNat
        refine wpAnyH_ready (rs := [17]) (by kernel_rfl) (by simp) ?_
        refine AllReadyH.cons (o := _) (Arl.nth_some rfl) (fun K hK => ?_) AllReadyH.nil
        go_simp
        refine hK.out _ _ (Kd.R_reads' (Kd.R_set (Kd.R_drew HO.out) (blk_drew S_gB.out) (by decide) _ _)).2.2 (fun HS => ?_)
        refine wpAnyH_done (by kernel_rfl) ?_ _
        clear hcB hfB HS hK
        go_wp2
        go_roundg (14 - i)
        case measure => have := HI.out; omega
        case rel =>
          have hx := HI.out
          refine ⟨x + 1, i + 1, rfl, ⟨⟨by omega, by omega, by omega⟩⟩, ⟨Arr.blk_other (blk_drew S_gF.out) N_gB_gF.out⟩, ⟨Arr.blk_other (blk_drew S_gE.out) N_gB_gE.out⟩, ⟨Arr.blk_other (blk_drew S_gH.out) N_gB_gH.out⟩, ⟨?_⟩, ⟨Kd.R_set (Kd.R_drew HO.out) (blk_drew S_gB.out) (by decide) _ _⟩, ⟨below_set (below_drew1 HB.out) G_gB.out⟩⟩
          have h1 := Arr.put_of (blk_drew S_gB.out) (x + 1).toNat (impl_FrameOf.bt n x)
          rw [HSET.out] at h1
          exact h1
    · have hi : i = 15 := by have := HI.out.2.1; omega
      have cb : decide (x < 15) = false := decide_eq_false (by have := HI.out.1; omega)
      have SB := Aside0.mk (show wr.heap[gB]? = some (.cells (Arr.u8s mf) 41 (0, 0)) by
        have h1 := S_gB.out
        rw [hi, List.take_of_length_le (by have := HM.out.1; omega)] at h1
        simpa using h1)
      clear c S_gB hi
      have LM := Aside0.mk (show (Arr.u8s mf).size = 16 by rw [Arr.u8s_size]; exact HM.out.1)
      go_upto_region 10 with (fail)
      · refine wp_region_held_drew (S := fun w' => w'.heap[gH]? = some (.cells #[.int .i64 x2, .int .i64 x3] 34 (0, 0)) ∧ w'.heap[gB]? = some (.cells (Arr.u8s mf) 41 (0, 0))) rfl ⟨blk_drew S_gH.out, blk_drew SB.out⟩ (fun HS => ?_)
        refine Arl.take (i := 0) (v := .agg (Arr.u8s mf)) rfl (by kernel_rfl) (by kernel_rfl) (by kernel_rfl) (fun _ _ _ h => h) (by rfl) (fun W hW => impl_FrameOf.load_run rfl rfl hW.2 hu41 rfl (by rw [LM.out]; kernel_rfl)) HS ?_
        simp only [Act.put, List.setIfInBounds_toArray, List.set_cons_zero, List.set_cons_succ]
        refine Arl.take (i := 1) (v := .agg #[.int .i64 x2, .int .i64 x3]) rfl (by kernel_rfl) (by kernel_rfl) (by kernel_rfl) (fun _ _ _ h => h) (by rfl) (fun W hW => impl_FrameOf.load_run rfl rfl hW.1 hu34 rfl (by kernel_rfl)) HS ?_
        simp only [Act.put, List.setIfInBounds_toArray, List.set_cons_zero, List.set_cons_succ]
        refine wpAnyH_ready (rs := [2]) (by kernel_rfl) (by simp) ?_
        refine AllReadyH.cons (o := _) (Arl.nth_some rfl) (fun K hK => ?_) AllReadyH.nil
        refine impl_FrameOf.store_step (by rfl) (T := 41) (p := 4) (g := gF) (old := #[.int .u8 0, .int .u8 0, .int .u8 0, .int .u8 0, .int .u8 0, .int .u8 0, .int .u8 0, .int .u8 0, .int .u8 0, .int .u8 0, .int .u8 0, .int .u8 0, .int .u8 0, .int .u8 0, .int .u8 0, .int .u8 0]) (cs := Arr.u8s mf) (t := 41) rfl rfl rfl rfl (blk_drew S_gF.out) (by rw [LM.out]; kernel_rfl) (by rw [LM.out]; first | done | rfl) (Arr.u8s_one _) ?_
        intro w7 hs_ hk_ hB_
        have T_gF := Aside0.mk hs_
        have T_gE := Aside0.mk ((hk_ _ N_gE_gF.out).trans (blk_drew S_gE.out))
        have T_gH := Aside0.mk ((hk_ _ N_gH_gF.out).trans (blk_drew S_gH.out))
        have T_gB := Aside0.mk ((hk_ _ N_gB_gF.out).trans (blk_drew SB.out))
        have THB := Aside0.mk (hB_ _ _ (below_drew1 HB.out) G_gF.out)
        refine hK.out _ _ ⟨T_gH.out, T_gB.out⟩ (fun HS2 => ?_)
        clear hs_ hk_ hB_ HS hK K S_gF S_gE S_gH SB HB
        refine wpAnyH_ready (rs := [3]) (by kernel_rfl) (by simp) ?_
        refine AllReadyH.cons (o := _) (Arl.nth_some rfl) (fun K hK => ?_) AllReadyH.nil
        refine impl_FrameOf.store_step (by rfl) (T := 34) (p := 5) (g := gE) (old := #[.int .i64 0, .int .i64 0]) (cs := #[.int .i64 x2, .int .i64 x3]) (t := 34) rfl rfl rfl rfl T_gE.out (by kernel_rfl) rfl (by simp [Value.oneCell']) ?_
        intro w8 hs_ hk_ hB_
        have S_gE := Aside0.mk hs_
        have S_gF := Aside0.mk ((hk_ _ N_gF_gE.out).trans T_gF.out)
        have HB := Aside0.mk (hB_ _ _ THB.out G_gE.out)
        refine hK.out _ _ ⟨(hk_ _ N_gH_gE.out).trans T_gH.out, (hk_ _ N_gB_gE.out).trans T_gB.out⟩ (fun HS => ?_)
        clear hs_ hk_ hB_ HS2 hK K T_gF T_gE T_gH T_gB THB
        refine Arl.take (i := 4) (v := .bool true) rfl (by kernel_rfl) (by kernel_rfl) (by kernel_rfl) (fun _ _ _ h => h) (by rfl) (fun W hW => by go_simp) HS ?_
        simp only [Act.put, List.setIfInBounds_toArray, List.set_cons_zero, List.set_cons_succ]
        refine wpAnyH_done (by kernel_rfl) ?_ _
        clear HS
        go_wp2
        refine bodyPost_ret (results_list (rs := [.cell 4 41, .cell 5 34, .tmp 6]) rfl (by simp) (.cell gF 41 (Arr.u8s mf) (0, 0) _ rfl S_gF.out Try.underlying41 rfl (by rw [Arr.u8s_size, HM.out.1]; kernel_rfl) (.cell gE 34 #[.int .i64 x2, .int .i64 x3] (0, 0) _ rfl S_gE.out Try.underlying34 rfl (by kernel_rfl) (.tmp .nil)))) rfl ?_
        exact ⟨rfl, HB.out⟩

/-! ### laws_eqByteA16: function 41 -/
def laws_eqByteA16.f (a0_0 : Int) (a0_1 : Int) (a0_2 : Int) (a0_3 : Int) (a0_4 : Int) (a0_5 : Int) (a0_6 : Int) (a0_7 : Int) (a0_8 : Int) (a0_9 : Int) (a0_10 : Int) (a0_11 : Int) (a0_12 : Int) (a0_13 : Int) (a0_14 : Int) (a0_15 : Int) (a1_0 : Int) (a1_1 : Int) (a1_2 : Int) (a1_3 : Int) (a1_4 : Int) (a1_5 : Int) (a1_6 : Int) (a1_7 : Int) (a1_8 : Int) (a1_9 : Int) (a1_10 : Int) (a1_11 : Int) (a1_12 : Int) (a1_13 : Int) (a1_14 : Int) (a1_15 : Int) : Option Bool := some (decide ([a0_0, a0_1, a0_2, a0_3, a0_4, a0_5, a0_6, a0_7, a0_8, a0_9, a0_10, a0_11, a0_12, a0_13, a0_14, a0_15] = [a1_0, a1_1, a1_2, a1_3, a1_4, a1_5, a1_6, a1_7, a1_8, a1_9, a1_10, a1_11, a1_12, a1_13, a1_14, a1_15]))
set_option maxHeartbeats 4000000 in
set_option maxRecDepth 100000 in
theorem laws_eqByteA16.calls (a0_0 : Int) (a0_1 : Int) (a0_2 : Int) (a0_3 : Int) (a0_4 : Int) (a0_5 : Int) (a0_6 : Int) (a0_7 : Int) (a0_8 : Int) (a0_9 : Int) (a0_10 : Int) (a0_11 : Int) (a0_12 : Int) (a0_13 : Int) (a0_14 : Int) (a0_15 : Int) (a1_0 : Int) (a1_1 : Int) (a1_2 : Int) (a1_3 : Int) (a1_4 : Int) (a1_5 : Int) (a1_6 : Int) (a1_7 : Int) (a1_8 : Int) (a1_9 : Int) (a1_10 : Int) (a1_11 : Int) (a1_12 : Int) (a1_13 : Int) (a1_14 : Int) (a1_15 : Int) (r : Bool) (w : World) (h : laws_eqByteA16.f a0_0 a0_1 a0_2 a0_3 a0_4 a0_5 a0_6 a0_7 a0_8 a0_9 a0_10 a0_11 a0_12 a0_13 a0_14 a0_15 a1_0 a1_1 a1_2 a1_3 a1_4 a1_5 a1_6 a1_7 a1_8 a1_9 a1_10 a1_11 a1_12 a1_13 a1_14 a1_15 = some r) :
    Calls Try.prog 41 #[.agg #[.int .u8 a0_0, .int .u8 a0_1, .int .u8 a0_2, .int .u8 a0_3, .int .u8 a0_4, .int .u8 a0_5, .int .u8 a0_6, .int .u8 a0_7, .int .u8 a0_8, .int .u8 a0_9, .int .u8 a0_10, .int .u8 a0_11, .int .u8 a0_12, .int .u8 a0_13, .int .u8 a0_14, .int .u8 a0_15], .agg #[.int .u8 a1_0, .int .u8 a1_1, .int .u8 a1_2, .int .u8 a1_3, .int .u8 a1_4, .int .u8 a1_5, .int .u8 a1_6, .int .u8 a1_7, .int .u8 a1_8, .int .u8 a1_9, .int .u8 a1_10, .int .u8 a1_11, .int .u8 a1_12, .int .u8 a1_13, .int .u8 a1_14, .int .u8 a1_15]] w fun e w' => e = .returned (.bool r) ∧ Below w.heap.size w w' := by
  have hu := Try.underlying41
  have HB := Aside0.mk (Below.refl w.heap.size w)
  unfold laws_eqByteA16.f at h
  rw [show (#[.int .u8 a0_0, .int .u8 a0_1, .int .u8 a0_2, .int .u8 a0_3, .int .u8 a0_4, .int .u8 a0_5, .int .u8 a0_6, .int .u8 a0_7, .int .u8 a0_8, .int .u8 a0_9, .int .u8 a0_10, .int .u8 a0_11, .int .u8 a0_12, .int .u8 a0_13, .int .u8 a0_14, .int .u8 a0_15] : Array Value) = Arr.u8s [a0_0, a0_1, a0_2, a0_3, a0_4, a0_5, a0_6, a0_7, a0_8, a0_9, a0_10, a0_11, a0_12, a0_13, a0_14, a0_15] from rfl, show (#[.int .u8 a1_0, .int .u8 a1_1, .int .u8 a1_2, .int .u8 a1_3, .int .u8 a1_4, .int .u8 a1_5, .int .u8 a1_6, .int .u8 a1_7, .int .u8 a1_8, .int .u8 a1_9, .int .u8 a1_10, .int .u8 a1_11, .int .u8 a1_12, .int .u8 a1_13, .int .u8 a1_14, .int .u8 a1_15] : Array Value) = Arr.u8s [a1_0, a1_1, a1_2, a1_3, a1_4, a1_5, a1_6, a1_7, a1_8, a1_9, a1_10, a1_11, a1_12, a1_13, a1_14, a1_15] from rfl]
  generalize hl : [a0_0, a0_1, a0_2, a0_3, a0_4, a0_5, a0_6, a0_7, a0_8, a0_9, a0_10, a0_11, a0_12, a0_13, a0_14, a0_15] = l at h ⊢
  generalize hm : [a1_0, a1_1, a1_2, a1_3, a1_4, a1_5, a1_6, a1_7, a1_8, a1_9, a1_10, a1_11, a1_12, a1_13, a1_14, a1_15] = m at h ⊢
  have hlen : l.length = 16 := by rw [← hl]; rfl
  have hlen2 : m.length = 16 := by rw [← hm]; rfl
  clear hl hm
  have HL := Aside0.mk hlen
  have HM := Aside0.mk hlen2
  clear hlen hlen2
  have H := Aside0.mk (Option.some.inj h)
  clear h
  go_enter Try.func41, Try.ntmps41
  go_wp2_with (first | ((with_reducible refine gate_dst (N := 2) rfl ?_); refine box_event ?hg (N := 2) ?hd (cs := Arr.u8s l) (t := 41) ?hr ?_; (case hd => rfl); (case hg => rfl); (case hr => first | (go_simp; done) | (go_simp; rfl)); intro g1 hg_ w1 hbox_ hb_; have hg_g1 := Aside0.mk hg_; have hbox_g1 := Aside0.mk hbox_; have hb_g1 := Aside0.mk hb_; clear hg_ hbox_ hb_) | ((with_reducible refine gate_dst (N := 3) rfl ?_); refine box_event ?hg (N := 3) ?hd (cs := Arr.u8s m) (t := 41) ?hr ?_; (case hd => rfl); (case hg => rfl); (case hr => first | (go_simp; done) | (go_simp; rfl)); intro g2 hg_ w2 hbox_ hb_; have hg_g2 := Aside0.mk hg_; have hbox_g2 := Aside0.mk hbox_; have hb_g2 := Aside0.mk hb_; clear hg_ hbox_ hb_))
  have S1 := Aside0.mk (blk_below hbox_g1.out hb_g2.out)
  have S2 := hbox_g2
  have HB2 := Aside0.mk (below_step hb_g1.out hb_g2.out)
  clear hbox_g1 hbox_g2 hb_g1 hb_g2 hg_g1 hg_g2 HB
  go_loopg [5] 17 (fun g v5 w' => ∃ (x : Int) (i : Nat), v5 = .int .i64 x ∧ Aside0 (x = (i : Int) ∧ i ≤ 16 ∧ g = 17 - i) ∧ Aside0 (l.take i = m.take i) ∧ Aside0 (w'.heap[g1]? = some (.cells (Arr.u8s l) 41 (0, 0))) ∧ Aside0 (w'.heap[g2]? = some (.cells (Arr.u8s m) 41 (0, 0))) ∧ Aside0 (Below w.heap.size w w'))
  case atStart => exact ⟨0, 0, rfl, ⟨⟨rfl, Nat.zero_le _, rfl⟩⟩, ⟨rfl⟩, S1, S2, HB2⟩
  case round =>
    clear S1 S2 HB2
    obtain ⟨x, i, rfl, HI, HT, S1, S2, HB⟩ := hrel
    by_cases c : i < 16
    · have cx : x < 16 := by have := HI.out.1; omega
      have cx0 : 0 ≤ x := by have := HI.out.1; omega
      have hc1 := Arr.cell_of S1.out x cx0 (by have := HL.out; omega)
      have hc2 := Arr.cell_of S2.out x cx0 (by have := HM.out; omega)
      have key : ∀ (q : List Int), q.length = 16 → q.take (i + 1) = q.take i ++ [rd q x] := by
        intro q hq
        have e : x.toNat = i := by have := HI.out.1; omega
        rw [List.take_succ_eq_append_getElem (by omega)]
        congr 2
        simp [rd, e, List.getD_eq_getElem?_getD, List.getElem?_eq_getElem (show i < q.length by omega)]
      have K1 := Aside0.mk (key l HL.out)
      have K2 := Aside0.mk (key m HM.out)
      have cb : decide (x < 16) = true := decide_eq_true cx
      replace cx := eq_true cx
      replace cx0 := eq_true cx0
      clear c key
      by_cases ce : rd l x = rd m x
      · have cq : (rd l x != rd m x) = false := by simp [ce]
        have HT2 := Aside0.mk (show l.take (i + 1) = m.take (i + 1) by rw [K1.out, K2.out, HT.out, ce])
        clear ce
        go_wp2
        repeat (go_quiet (fail); try go_wp2)
        go_roundg (16 - i)
        case measure => have := HI.out; have := of_eq_true cx; omega
        case rel =>
          have hx := HI.out
          have cx' := of_eq_true cx
          exact ⟨wrap64 (x + 1), i + 1, rfl, ⟨⟨by rw [hx.1]; unfold wrap64; omega, by omega, by omega⟩⟩, HT2, ⟨by (with_reducible repeat (first | refine blk_drewN ?_ _ | refine blk_drew ?_)); exact S1.out⟩, ⟨by (with_reducible repeat (first | refine blk_drewN ?_ _ | refine blk_drew ?_)); exact S2.out⟩, ⟨by repeat (first | (with_reducible first | exact HB.out | apply pw_below_drewN | apply below_drew1) | exact HB.out)⟩⟩
      · have cq : (rd l x != rd m x) = true := by simpa using ce
        have hr : r = false := by
          rw [← H.out]
          apply decide_eq_false
          intro q
          exact ce (by rw [q])
        subst hr
        clear ce
        go_wp2
        repeat (go_quiet (fail); try go_wp2)
        go_ret
        exact ⟨rfl, by repeat (first | (with_reducible first | exact HB.out | apply pw_below_drewN | apply below_drew1) | exact HB.out)⟩
    · have hi : i = 16 := by have := HI.out.2.1; omega
      subst hi
      have hx := HI.out.1
      have hr : r = true := by
        rw [← H.out]
        apply decide_eq_true
        have h1 := HT.out
        rwa [List.take_of_length_le (by have := HL.out; omega), List.take_of_length_le (by have := HM.out; omega)] at h1
      subst hr
      have cb : decide (x < 16) = false := decide_eq_false (by omega)
      clear c
      go_wp2
      go_ret
      exact ⟨rfl, by repeat (first | (with_reducible first | exact HB.out | apply pw_below_drewN | apply below_drew1) | exact HB.out)⟩

end Go.Proofs.Yteaelhdcmnhcbaa.PFnExactFrameOf
