/- The quotients' functions: what each hands back where all are whole numbers. No condition. -/
import Derived.Test.YtplhdplebbhakaaWh
import Derived.Test.YtplhdplebbhakaaArl
import Derived.Test.YtplhdplebbhakaaArr
import Derived.Deep.RegionHeld3
import Derived.Deep.CutRange
import Derived.Deep.DeepCutAuto
set_option linter.unusedVariables false
set_option linter.unusedSimpArgs false
namespace Go.Proofs.Ytplhdplebbhakaa.Qt
open Go.RowKit Go.Proofs.YtplhdplebbhakaaW.PrintWords Go.Proofs.YtplhdplebbhakaaW.PrintLast Go.Proofs.YtplhdplebbhakaaW.PrintMore Go.Proofs.Ytplhdplebbhakaa.Fl Go.Proofs.Ytplhdplebbhakaa.Smp Go.Proofs.Ytplhdplebbhakaa.Wh
theorem f64bits (x : Nat) (w : World) : (callFunc 49 #[.float .f64 x]).run Try.prog w = .ok (.value (.int .u64 (x : Int))) w := by
  rw [run_callFunc_extern (fn := Try.f49) (e := Extern.MathFloatBits.float64bits) Try.func49 (by kernel_rfl) (by kernel_rfl) (by kernel_rfl) (by rfl)]
  rfl
theorem f64from (n : Int) (w : World) : (callFunc 48 #[.int .u64 n]).run Try.prog w = .ok (.value (.float .f64 n.toNat)) w := by
  rw [run_callFunc_extern (fn := Try.f48) (e := Extern.MathFloatBits.float64frombits) Try.func48 (by kernel_rfl) (by kernel_rfl) (by kernel_rfl) (by rfl)]
  rfl
set_option maxHeartbeats 8000000 in
set_option maxRecDepth 100000 in
theorem abs.calls (x : Nat) (w : World) : Calls Try.prog 40 #[.float .f64 x] w fun e w' => e = .returned (.float .f64 (ab x)) ∧ ∃ n, w' = w.drewN n := by
  have hu22 := Try.underlying22
  have hu24 := Try.underlying24
  have hu26 := Try.underlying26
  have hu30 := Try.underlying30
  have hu32 := Try.underlying32
  have hu34 := Try.underlying34
  have hu64 := Try.underlying64
  have b1 := f64bits
  have b2 := f64from
  go_enter Try.func40, Try.ntmps40
  go_wp2
  go_returns
  exact ⟨rfl, 0, rfl⟩
set_option maxHeartbeats 8000000 in
set_option maxRecDepth 100000 in
theorem isNaN.calls (x : Nat) (h : ¬ NaN .f64 x) (w : World) : Calls Try.prog 46 #[.float .f64 x] w fun e w' => e = .returned (.bool false) ∧ ∃ n, w' = w.drewN n := by
  have hu22 := Try.underlying22
  have hu24 := Try.underlying24
  have hu26 := Try.underlying26
  have hu30 := Try.underlying30
  have hu32 := Try.underlying32
  have hu34 := Try.underlying34
  have hu64 := Try.underlying64
  have o := order_self h
  go_enter Try.func46, Try.ntmps46
  go_wp2
  go_returns
  exact ⟨by first | rfl | (simp [o]; done), 0, rfl⟩
set_option maxHeartbeats 8000000 in
set_option maxRecDepth 100000 in
theorem isInf.calls (x : Nat) (h : (FloatKind.f64.format.order (ab x) 9218868437227405311 == some .gt) = false) (w : World) : Calls Try.prog 47 #[.float .f64 x, .int .i64 0] w fun e w' => e = .returned (.bool false) ∧ ∃ n, w' = w.drewN n := by
  have hu22 := Try.underlying22
  have hu24 := Try.underlying24
  have hu26 := Try.underlying26
  have hu30 := Try.underlying30
  have hu32 := Try.underlying32
  have hu34 := Try.underlying34
  have hu64 := Try.underlying64
  go_enter Try.func47, Try.ntmps47
  go_wp2_with (first | (go_at_call 40; (with_reducible refine (abs.calls x _).mono ?_); rintro e w1 ⟨rfl, m1, rfl⟩))
  go_returns
  exact ⟨by first | rfl | (simp [h]; done), m1, rfl⟩
set_option maxHeartbeats 8000000 in
set_option maxRecDepth 100000 in
theorem finite.calls (x : Nat) (a : Int) (hx : W .f64 x a) (ha : B a) (w : World) : Calls Try.prog 39 #[.float .f64 x] w fun e w' => e = .returned (.bool true) ∧ ∃ n, w' = w.drewN n := by
  have hu22 := Try.underlying22
  have hu24 := Try.underlying24
  have hu26 := Try.underlying26
  have hu30 := Try.underlying30
  have hu32 := Try.underlying32
  have hu34 := Try.underlying34
  have hu64 := Try.underlying64
  have h1 := hx.num ha
  have hab : B (a.natAbs : Int) := by have := ha.1; have := ha.2; constructor <;> omega
  have h2 := (hx.ab ha).2.fin hab
  go_enter Try.func39, Try.ntmps39
  go_wp2_with (first | (go_at_call 46; (with_reducible refine (isNaN.calls x h1 _).mono ?_); rintro e w1 ⟨rfl, m1, rfl⟩) | (go_at_call 47; (with_reducible refine (isInf.calls x h2 _).mono ?_); rintro e w2 ⟨rfl, m2, rfl⟩))
  go_returns
  exact ⟨rfl, m1 + m2, by first | rfl | exact World.drewN_drewN _ _ _ | exact (World.drewN_drewN _ _ _).symm⟩
theorem absB.calls (x : Nat) (w : World) : Calls Try.prog 40 #[.float .f64 x] w fun e w' => e = .returned (.float .f64 (ab x)) ∧ Below w.heap.size w w' :=
  (abs.calls x w).mono (fun e w' h => by obtain ⟨h1, n, rfl⟩ := h; exact ⟨h1, pw_below_drewN (Below.refl _ _) n⟩)
theorem widenW.calls (x1 x2 : Nat) (a1 a2 : Int) (hx1 : W .f32 x1 a1) (hx2 : W .f32 x2 a2) (ha1 : B a1) (ha2 : B a2) (w : World) : Calls Try.prog 24 #[.agg #[.float .f32 x1, .float .f32 x2]] w fun e w' => ∃ r1 r2, e = .returned (.agg #[.float .f64 r1, .float .f64 r2]) ∧ W .f64 r1 a1 ∧ W .f64 r2 a2 ∧ Below w.heap.size w w' :=
  (impl_Widen.calls x1 x2 w).mono (fun e w' h => by obtain ⟨r1, r2, h1, h2, h3, h4⟩ := h; exact ⟨r1, r2, h1, hx1.conv ha1 h2.2, hx2.conv ha2 h3.2, h4⟩)
theorem mulW.calls (x1 x2 : Nat) (a1 a2 : Int) (hx1 : W .f64 x1 a1) (hx2 : W .f64 x2 a2) (ha1 : B a1) (ha2 : B a2) (y1 y2 : Nat) (b1 b2 : Int) (hy1 : W .f64 y1 b1) (hy2 : W .f64 y2 b2) (hb1 : B b1) (hb2 : B b2) (p1 : B (a1 * b1)) (p2 : B (a2 * b2)) (p3 : B (a1 * b2)) (p4 : B (a2 * b1)) (p5 : B (a1 * b1 - a2 * b2)) (p6 : B (a1 * b2 + a2 * b1)) (w : World) : Calls Try.prog 27 #[.agg #[.float .f64 x1, .float .f64 x2], .agg #[.float .f64 y1, .float .f64 y2]] w fun e w' => ∃ r1 r2, e = .returned (.agg #[.float .f64 r1, .float .f64 r2]) ∧ W .f64 r1 (a1 * b1 - a2 * b2) ∧ W .f64 r2 (a1 * b2 + a2 * b1) ∧ Below w.heap.size w w' :=
  (impl_MulWide.calls x1 x2 y1 y2 w).mono (fun e w' h => by
    obtain ⟨r1, r2, r3, r4, r5, r6, h0, h1, h2, h3, h4, h5, h6, h7⟩ := h
    have w1 := hx1.mul hy1 ha1 hb1 p1 h1
    have w2 := hx2.mul hy2 ha2 hb2 p2 h2
    have w3 := hx1.mul hy2 ha1 hb2 p3 h3
    have w4 := hx2.mul hy1 ha2 hb1 p4 h4
    exact ⟨r5, r6, h0, w1.sub w2 p1 p2 p5 h5, w3.add w4 p3 p4 p6 h6, h7⟩)
set_option maxHeartbeats 8000000 in
set_option maxRecDepth 100000 in
theorem narrowW.calls (x1 x2 : Nat) (a1 a2 : Int) (hx1 : W .f64 x1 a1) (hx2 : W .f64 x2 a2) (ha1 : B a1) (ha2 : B a2) (w : World) : Calls Try.prog 20 #[.agg #[.float .f64 x1, .float .f64 x2]] w fun e w' => ∃ r1 r2, e = .returned (.agg #[.float .f32 r1, .float .f32 r2]) ∧ W .f32 r1 a1 ∧ W .f32 r2 a2 ∧ Below w.heap.size w w' := by
  have hu22 := Try.underlying22
  have hu24 := Try.underlying24
  have hu26 := Try.underlying26
  have hu30 := Try.underlying30
  have hu32 := Try.underlying32
  have hu34 := Try.underlying34
  have hu64 := Try.underlying64
  go_enter Try.func20, Try.ntmps20
  go_wp2_with (first | ((with_reducible refine gate_dst (N := 5) rfl ?_); refine wpList_fconv rfl rfl Try.underlying30 Try.underlying22 rfl ?_; intro r1 n1 q1_ q2_ q3_; have V1 := Aside0.mk (W.conv hx1 ha1 q3_); clear q1_ q2_ q3_) | ((with_reducible refine gate_dst (N := 8) rfl ?_); refine wpList_fconv rfl rfl Try.underlying30 Try.underlying22 rfl ?_; intro r2 n2 q1_ q2_ q3_; have V2 := Aside0.mk (W.conv hx2 ha2 q3_); clear q1_ q2_ q3_))
  go_returns
  exact ⟨_, _, rfl, V1.out, V2.out, by repeat (first | (with_reducible first | exact Below.refl _ _ | exact HB.out | apply below_alloc | apply pw_below_drewN | apply below_drew1 | refine below_set ?_ (by omega)))⟩
theorem load_run {P : Program} {o : Oper} {a : Act} {W : World} {T : TypeId} {p : Tmp} (ho : o.op = .load T (.tmp p)) {g : Nat} {cs : Array Value} {t : TypeId} {fr : Nat × Nat} {d : TypeDesc}
    (hp : a.eval (.tmp p) = .pointer (some ⟨g, 0, none⟩)) (hb : W.heap[g]? = some (.cells cs t fr)) (hu : P.underlying T = some d) (hr : (match d with | .struct _ | .array _ _ => true | _ => false) = true)
    (hi : (P.info? T).map (·.size) = some cs.size) : (execOp a.eval o).run P W = .ok (.value (.agg cs)) W := by
  have hrun : (Instr.loadAt T (.pointer (some ⟨g, 0, none⟩))).run P W = .ok (.agg cs) W := by
    simp only [Instr.loadAt, Instr.sureAddr, Sem.run_bind, Sem.run_pure, Result.andThen_ok, run_loadVar_row W g t T cs fr d hb hu hr hi]
  simp only [execOp, ho, hp]
  simp [hrun, Result.andThen]
theorem blk2 {w : World} {g : Nat} {t : TypeId} {a b u v : Value} (h : w.heap[g]? = some (.cells #[a, b] t (0, 0))) : ((w.setCell ⟨g, 0, none⟩ u).setCell ⟨g, 1, none⟩ v).heap[g]? = some (.cells #[u, v] t (0, 0)) := blk_put (blk_put h 0 u rfl) 1 v rfl
set_option maxHeartbeats 8000000 in
set_option maxRecDepth 100000 in
theorem mulS.calls (x1 x2 : Nat) (a1 a2 : Int) (hx1 : W .f32 x1 a1) (hx2 : W .f32 x2 a2) (ha1 : B a1) (ha2 : B a2) (y1 y2 : Nat) (b1 b2 : Int) (hy1 : W .f32 y1 b1) (hy2 : W .f32 y2 b2) (hb1 : B b1) (hb2 : B b2) (p1 : B (a1 * b1)) (p2 : B (a2 * b2)) (p3 : B (a1 * b2)) (p4 : B (a2 * b1)) (p5 : B (a1 * b1 - a2 * b2)) (p6 : B (a1 * b2 + a2 * b1)) (w : World) : Calls Try.prog 29 #[.agg #[.float .f32 x1, .float .f32 x2], .agg #[.float .f32 y1, .float .f32 y2]] w fun e w' => ∃ r1 r2, e = .returned (.agg #[.float .f32 r1, .float .f32 r2]) ∧ W .f32 r1 (a1 * b1 - a2 * b2) ∧ W .f32 r2 (a1 * b2 + a2 * b1) ∧ Below w.heap.size w w' := by
  have hu22 := Try.underlying22
  have hu24 := Try.underlying24
  have hu26 := Try.underlying26
  have hu30 := Try.underlying30
  have hu32 := Try.underlying32
  have hu34 := Try.underlying34
  have hu64 := Try.underlying64
  have HB := Aside0.mk (Below.refl w.heap.size w)
  go_enter Try.func29, Try.ntmps29
  go_upto_region 1 with (first | ((with_reducible refine gate_dst (N := 2) rfl ?_); refine box_event ?hg (N := 2) ?hd (cs := #[.float .f32 x1, .float .f32 x2]) (t := 26) ?hr ?_; (case hd => rfl); (case hg => rfl); (case hr => first | (go_simp; done) | (go_simp; rfl)); intro g2 hg_ wg2 hbox_ hb_; have G_g2 := Aside0.mk (show w.heap.size ≤ g2 by rw [hg_]; exact below_size HB.out); have n_HB := Aside0.mk (below_step HB.out hb_); clear HB; have HB := n_HB; have S_g2 := Aside0.mk hbox_; clear n_HB  hg_ hbox_ hb_) | ((with_reducible refine gate_dst (N := 3) rfl ?_); refine box_event ?hg (N := 3) ?hd (cs := #[.float .f32 y1, .float .f32 y2]) (t := 26) ?hr ?_; (case hd => rfl); (case hg => rfl); (case hr => first | (go_simp; done) | (go_simp; rfl)); intro g3 hg_ wg3 hbox_ hb_; have G_g3 := Aside0.mk (show w.heap.size ≤ g3 by rw [hg_]; exact below_size HB.out); have N_g2_g3 := Aside0.mk (show g2 ≠ g3 by rw [hg_]; exact Nat.ne_of_lt (blk_lt S_g2.out)); have N_g3_g2 := Aside0.mk (N_g2_g3.out.symm); have n_g2 := Aside0.mk (blk_below S_g2.out hb_); have n_HB := Aside0.mk (below_step HB.out hb_); clear HB S_g2; have HB := n_HB; have S_g2 := n_g2; have S_g3 := Aside0.mk hbox_; clear n_HB n_g2 hg_ hbox_ hb_) | ((with_reducible refine gate_dst (N := 4) rfl ?_); refine box_event ?hg (N := 4) ?hd (cs := #[.float .f32 0, .float .f32 0]) (t := 26) ?hr ?_; (case hd => rfl); (case hg => rfl); (case hr => first | (go_simp; done) | (go_simp; rfl)); intro g4 hg_ wg4 hbox_ hb_; have G_g4 := Aside0.mk (show w.heap.size ≤ g4 by rw [hg_]; exact below_size HB.out); have N_g2_g4 := Aside0.mk (show g2 ≠ g4 by rw [hg_]; exact Nat.ne_of_lt (blk_lt S_g2.out)); have N_g4_g2 := Aside0.mk (N_g2_g4.out.symm); have N_g3_g4 := Aside0.mk (show g3 ≠ g4 by rw [hg_]; exact Nat.ne_of_lt (blk_lt S_g3.out)); have N_g4_g3 := Aside0.mk (N_g3_g4.out.symm); have n_g2 := Aside0.mk (blk_below S_g2.out hb_); have n_g3 := Aside0.mk (blk_below S_g3.out hb_); have n_HB := Aside0.mk (below_step HB.out hb_); clear HB S_g2 S_g3; have HB := n_HB; have S_g2 := n_g2; have S_g3 := n_g3; have S_g4 := Aside0.mk hbox_; clear n_HB n_g2 n_g3 hg_ hbox_ hb_))
  have S0 := (show wg4.drew.heap[g2]? = some (.cells #[.float .f32 x1, .float .f32 x2] 26 (0, 0)) ∧ wg4.drew.heap[g3]? = some (.cells #[.float .f32 y1, .float .f32 y2] 26 (0, 0)) ∧ (∃ c d, wg4.drew.heap[g4]? = some (.cells #[.float .f32 c, .float .f32 d] 26 (0, 0))) ∧ Below w.heap.size w wg4.drew from ⟨blk_drew S_g2.out, blk_drew S_g3.out, ⟨0, 0, blk_drew S_g4.out⟩, below_drew1 HB.out⟩)
  refine wp_region_held_drew (S := fun w' => w'.heap[g2]? = some (.cells #[.float .f32 x1, .float .f32 x2] 26 (0, 0)) ∧ w'.heap[g3]? = some (.cells #[.float .f32 y1, .float .f32 y2] 26 (0, 0)) ∧ (∃ c d, w'.heap[g4]? = some (.cells #[.float .f32 c, .float .f32 d] 26 (0, 0))) ∧ Below w.heap.size w w') rfl S0 (fun HS => ?_)
  clear S0
  have STEP : ∀ W W' : World, (W.heap[g2]? = some (.cells #[.float .f32 x1, .float .f32 x2] 26 (0, 0)) ∧ W.heap[g3]? = some (.cells #[.float .f32 y1, .float .f32 y2] 26 (0, 0)) ∧ (∃ c d, W.heap[g4]? = some (.cells #[.float .f32 c, .float .f32 d] 26 (0, 0))) ∧ Below w.heap.size w W) → Below W.heap.size W W' → (W'.heap[g2]? = some (.cells #[.float .f32 x1, .float .f32 x2] 26 (0, 0)) ∧ W'.heap[g3]? = some (.cells #[.float .f32 y1, .float .f32 y2] 26 (0, 0)) ∧ (∃ c d, W'.heap[g4]? = some (.cells #[.float .f32 c, .float .f32 d] 26 (0, 0))) ∧ Below w.heap.size w W') := fun W W' h hb => ⟨blk_below h.1 hb, blk_below h.2.1 hb, (h.2.2.1.elim fun c q => q.elim fun d q => ⟨c, d, blk_below q hb⟩), below_step h.2.2.2 hb⟩
  refine Arl.take (i := 0) (v := .agg #[.float .f32 x1, .float .f32 x2]) rfl (by kernel_rfl) (by kernel_rfl) (by kernel_rfl) (fun _ _ _ h => h) (by rfl) (fun W hW => load_run rfl rfl hW.1 hu26 rfl (by kernel_rfl)) HS ?_
  simp only [Act.put, List.setIfInBounds_toArray, List.set_cons_zero, List.set_cons_succ]
  refine Arl.take (i := 2) (v := .agg #[.float .f32 y1, .float .f32 y2]) rfl (by kernel_rfl) (by kernel_rfl) (by kernel_rfl) (fun _ _ _ h => h) (by rfl) (fun W hW => load_run rfl rfl hW.2.1 hu26 rfl (by kernel_rfl)) HS ?_
  simp only [Act.put, List.setIfInBounds_toArray, List.set_cons_zero, List.set_cons_succ]
  refine wpAnyH_ready (rs := [1]) (by kernel_rfl) (by simp) ?_
  refine AllReadyH.cons (o := _) (Arl.nth_some rfl) (fun K hK => ?_) AllReadyH.nil
  go_simp
  go_at_call 24
  refine (widenW.calls x1 x2 a1 a2 hx1 hx2 ha1 ha2 _).mono ?_
  rintro e w5 ⟨u1, u2, rfl, hu1, hu2, hb⟩
  (try refine ⟨_, rfl, ?_⟩)
  have HS1 := STEP _ _ HS hb
  replace HS := HS1
  clear HS1 hb
  refine hK.out _ _ HS (fun HS => ?_)
  clear hK
  refine wpAnyH_ready (rs := [3]) (by kernel_rfl) (by simp) ?_
  refine AllReadyH.cons (o := _) (Arl.nth_some rfl) (fun K hK => ?_) AllReadyH.nil
  go_simp
  go_at_call 24
  refine (widenW.calls y1 y2 b1 b2 hy1 hy2 hb1 hb2 _).mono ?_
  rintro e w6 ⟨v1, v2, rfl, hv1, hv2, hb⟩
  (try refine ⟨_, rfl, ?_⟩)
  have HS1 := STEP _ _ HS hb
  replace HS := HS1
  clear HS1 hb
  refine hK.out _ _ HS (fun HS => ?_)
  clear hK
  refine wpAnyH_ready (rs := [4]) (by kernel_rfl) (by simp) ?_
  refine AllReadyH.cons (o := _) (Arl.nth_some rfl) (fun K hK => ?_) AllReadyH.nil
  go_simp
  go_at_call 27
  refine (mulW.calls u1 u2 a1 a2 hu1 hu2 ha1 ha2 v1 v2 b1 b2 hv1 hv2 hb1 hb2 p1 p2 p3 p4 p5 p6 _).mono ?_
  rintro e w7 ⟨m1, m2, rfl, hm1, hm2, hb⟩
  (try refine ⟨_, rfl, ?_⟩)
  have HS1 := STEP _ _ HS hb
  replace HS := HS1
  clear HS1 hb
  refine hK.out _ _ HS (fun HS => ?_)
  clear hK
  refine wpAnyH_ready (rs := [5]) (by kernel_rfl) (by simp) ?_
  refine AllReadyH.cons (o := _) (Arl.nth_some rfl) (fun K hK => ?_) AllReadyH.nil
  go_simp
  go_at_call 20
  refine (narrowW.calls m1 m2 _ _ hm1 hm2 p5 p6 _).mono ?_
  rintro e w8 ⟨z1, z2, rfl, hz1, hz2, hb⟩
  (try refine ⟨_, rfl, ?_⟩)
  have HS1 := STEP _ _ HS hb
  replace HS := HS1
  clear HS1 hb
  refine hK.out _ _ HS (fun HS => ?_)
  clear hK
  refine wpAnyH_ready (rs := [6]) (by kernel_rfl) (by simp) ?_
  refine AllReadyH.cons (o := _) (Arl.nth_some rfl) (fun K hK => ?_) AllReadyH.nil
  obtain ⟨c, d, h4⟩ := HS.2.2.1
  have hc0 := (blk_cell h4 0).trans (show (#[Value.float .f32 c, Value.float .f32 d] : Array Value)[0]? = _ from rfl)
  have hc1 := (blk_cell h4 1).trans (show (#[Value.float .f32 c, Value.float .f32 d] : Array Value)[1]? = _ from rfl)
  have hf0 := blk_frozen h4 0
  have hf1 := blk_frozen h4 1
  go_simp
  have R4 := Aside0.mk (blk2 (u := .float .f32 z1) (v := .float .f32 z2) h4)
  have R5 := Aside0.mk (below_set (j := 1) (v := .float .f32 z2) (below_set (j := 0) (v := .float .f32 z1) HS.2.2.2 G_g4.out) G_g4.out)
  refine hK.out _ _ ⟨Arr.blk_other (Arr.blk_other HS.1 N_g4_g2.out) N_g4_g2.out, Arr.blk_other (Arr.blk_other HS.2.1 N_g4_g3.out) N_g4_g3.out, ⟨_, _, R4.out⟩, R5.out⟩ (fun HS2 => ?_)
  clear hK hc0 hc1 hf0 hf1 HS HS2
  refine wpAnyH_done (by kernel_rfl) ?_ _
  go_wp2
  refine bodyPost_ret (results_cell_row rfl _ _ g4 26 #[.float .f32 z1, .float .f32 z2] (0, 0) _ rfl R4.out hu26 rfl (by kernel_rfl)) rfl ?_
  exact ⟨_, _, rfl, hz1, hz2, R5.out⟩
set_option maxHeartbeats 8000000 in
set_option maxRecDepth 100000 in
theorem quot0.calls (x1 x2 : Nat) (a1 a2 : Int) (hx1 : W .f64 x1 a1) (hx2 : W .f64 x2 a2) (ha1 : B a1) (ha2 : B a2) (y1 y2 : Nat) (hy1 : W .f64 y1 0) (hy2 : W .f64 y2 0) (w : World) : Calls Try.prog 33 #[.agg #[.float .f64 x1, .float .f64 x2], .agg #[.float .f64 y1, .float .f64 y2]] w fun e w' => e = .returned (.tuple #[.agg #[.float .f64 0, .float .f64 0], .bool false]) ∧ Below w.heap.size w w' := by
  have hu22 := Try.underlying22
  have hu24 := Try.underlying24
  have hu26 := Try.underlying26
  have hu30 := Try.underlying30
  have hu32 := Try.underlying32
  have hu34 := Try.underlying34
  have hu64 := Try.underlying64
  have HB := Aside0.mk (Below.refl w.heap.size w)
  have hb : B 0 := by constructor <;> decide
  have o1 : FloatKind.f64.format.order y1 0 = some .eq := hy1.order (W.zero _) hb hb
  have o2 : FloatKind.f64.format.order y2 0 = some .eq := hy2.order (W.zero _) hb hb
  go_enter Try.func33, Try.ntmps33
  go_upto_region 1 with (first | ((with_reducible refine gate_dst (N := 2) rfl ?_); refine box_event ?hg (N := 2) ?hd (cs := #[.float .f64 x1, .float .f64 x2]) (t := 34) ?hr ?_; (case hd => rfl); (case hg => rfl); (case hr => first | (go_simp; done) | (go_simp; rfl)); intro g2 hg_ wg2 hbox_ hb_; have G_g2 := Aside0.mk (show w.heap.size ≤ g2 by rw [hg_]; exact below_size HB.out); have n_HB := Aside0.mk (below_step HB.out hb_); clear HB; have HB := n_HB; have S_g2 := Aside0.mk hbox_; clear n_HB  hg_ hbox_ hb_) | ((with_reducible refine gate_dst (N := 3) rfl ?_); refine box_event ?hg (N := 3) ?hd (cs := #[.float .f64 y1, .float .f64 y2]) (t := 34) ?hr ?_; (case hd => rfl); (case hg => rfl); (case hr => first | (go_simp; done) | (go_simp; rfl)); intro g3 hg_ wg3 hbox_ hb_; have G_g3 := Aside0.mk (show w.heap.size ≤ g3 by rw [hg_]; exact below_size HB.out); have N_g2_g3 := Aside0.mk (show g2 ≠ g3 by rw [hg_]; exact Nat.ne_of_lt (blk_lt S_g2.out)); have N_g3_g2 := Aside0.mk (N_g2_g3.out.symm); have n_g2 := Aside0.mk (blk_below S_g2.out hb_); have n_HB := Aside0.mk (below_step HB.out hb_); clear HB S_g2; have HB := n_HB; have S_g2 := n_g2; have S_g3 := Aside0.mk hbox_; clear n_HB n_g2 hg_ hbox_ hb_) | ((with_reducible refine gate_dst (N := 4) rfl ?_); refine box_event ?hg (N := 4) ?hd (cs := #[.float .f64 0, .float .f64 0]) (t := 34) ?hr ?_; (case hd => rfl); (case hg => rfl); (case hr => first | (go_simp; done) | (go_simp; rfl)); intro g4 hg_ wg4 hbox_ hb_; have G_g4 := Aside0.mk (show w.heap.size ≤ g4 by rw [hg_]; exact below_size HB.out); have N_g2_g4 := Aside0.mk (show g2 ≠ g4 by rw [hg_]; exact Nat.ne_of_lt (blk_lt S_g2.out)); have N_g4_g2 := Aside0.mk (N_g2_g4.out.symm); have N_g3_g4 := Aside0.mk (show g3 ≠ g4 by rw [hg_]; exact Nat.ne_of_lt (blk_lt S_g3.out)); have N_g4_g3 := Aside0.mk (N_g3_g4.out.symm); have n_g2 := Aside0.mk (blk_below S_g2.out hb_); have n_g3 := Aside0.mk (blk_below S_g3.out hb_); have n_HB := Aside0.mk (below_step HB.out hb_); clear HB S_g2 S_g3; have HB := n_HB; have S_g2 := n_g2; have S_g3 := n_g3; have S_g4 := Aside0.mk hbox_; clear n_HB n_g2 n_g3 hg_ hbox_ hb_))
  have c20 := (blk_cell S_g2.out 0).trans (show (#[.float .f64 x1, .float .f64 x2] : Array Value)[0]? = _ from rfl)
  have c21 := (blk_cell S_g2.out 1).trans (show (#[.float .f64 x1, .float .f64 x2] : Array Value)[1]? = _ from rfl)
  have c30 := (blk_cell S_g3.out 0).trans (show (#[.float .f64 y1, .float .f64 y2] : Array Value)[0]? = _ from rfl)
  have c31 := (blk_cell S_g3.out 1).trans (show (#[.float .f64 y1, .float .f64 y2] : Array Value)[1]? = _ from rfl)
  have c40 := (blk_cell S_g4.out 0).trans (show (#[.float .f64 0, .float .f64 0] : Array Value)[0]? = _ from rfl)
  have c41 := (blk_cell S_g4.out 1).trans (show (#[.float .f64 0, .float .f64 0] : Array Value)[1]? = _ from rfl)
  have f40 := blk_frozen S_g4.out 0
  have f41 := blk_frozen S_g4.out 1
  go_wp2_with (first | (go_at_call 39; (with_reducible refine (finite.calls x1 a1 hx1 ha1 _).mono ?_); rintro e w11 ⟨rfl, ⟨nw11, rfl⟩⟩) | (go_at_call 39; (with_reducible refine (finite.calls x2 a2 hx2 ha2 _).mono ?_); rintro e w12 ⟨rfl, ⟨nw12, rfl⟩⟩) | (go_at_call 39; (with_reducible refine (finite.calls y1 0 hy1 hb _).mono ?_); rintro e w13 ⟨rfl, ⟨nw13, rfl⟩⟩) | (go_at_call 39; (with_reducible refine (finite.calls y2 0 hy2 hb _).mono ?_); rintro e w14 ⟨rfl, ⟨nw14, rfl⟩⟩))
  refine bodyPost_ret (results_list (rs := [.cell 4 34, .tmp 5]) rfl (by simp) (.cell g4 34 #[.float .f64 0, .float .f64 0] (0, 0) _ rfl (blk2 (blk_drewN S_g4.out _)) hu34 rfl (by kernel_rfl) (.tmp .nil))) rfl ?_
  exact ⟨rfl, below_set (below_set (pw_below_drewN HB.out _) G_g4.out) G_g4.out⟩
set_option maxHeartbeats 8000000 in
set_option maxRecDepth 100000 in
theorem quotA.calls (x1 x2 : Nat) (a1 a2 : Int) (hx1 : W .f64 x1 a1) (hx2 : W .f64 x2 a2) (ha1 : B a1) (ha2 : B a2) (y1 y2 : Nat) (b1 b2 : Int) (hy1 : W .f64 y1 b1) (hy2 : W .f64 y2 b2) (hb1 : B b1) (hb2 : B b2) (r q1 q2 : Int) (hge : (compare (b1.natAbs : Int) (b2.natAbs : Int)) ≠ .lt) (h0 : b1 ≠ 0) (hr : b2 = r * b1) (k1 : B r) (k2 : B (r * b2)) (k3 : B (b1 + r * b2)) (hd : b1 + r * b2 ≠ 0) (k4 : B (a2 * r)) (k5 : B (a1 + a2 * r)) (e1 : a1 + a2 * r = q1 * (b1 + r * b2)) (k6 : B (a1 * r)) (k7 : B (a2 - a1 * r)) (e2 : a2 - a1 * r = q2 * (b1 + r * b2)) (w : World) : Calls Try.prog 33 #[.agg #[.float .f64 x1, .float .f64 x2], .agg #[.float .f64 y1, .float .f64 y2]] w fun e w' => ∃ s1 s2, e = .returned (.tuple #[.agg #[.float .f64 s1, .float .f64 s2], .bool true]) ∧ W .f64 s1 q1 ∧ W .f64 s2 q2 ∧ Below w.heap.size w w' := by
  have hu22 := Try.underlying22
  have hu24 := Try.underlying24
  have hu26 := Try.underlying26
  have hu30 := Try.underlying30
  have hu32 := Try.underlying32
  have hu34 := Try.underlying34
  have hu64 := Try.underlying64
  have HB := Aside0.mk (Below.refl w.heap.size w)
  have hz : B 0 := by constructor <;> decide
  have o1 : FloatKind.f64.format.order y1 0 = some (compare b1 0) := hy1.order (W.zero _) hb1 hz
  have o2 : FloatKind.f64.format.order y2 0 = some (compare b2 0) := hy2.order (W.zero _) hb2 hz
  have o3 : (FloatKind.f64.format.order y1 0 == some .eq) = false := by
    rw [o1]
    have h9 : compare b1 0 ≠ .eq := fun h => h0 (by simpa [compare, compareOfLessAndEq] using Std.LawfulEqCmp.compare_eq_iff_eq.1 h)
    cases hc : compare b1 0 <;> simp_all
  have n1 : B (b1.natAbs : Int) := by have := hb1.1; have := hb1.2; constructor <;> omega
  have n2 : B (b2.natAbs : Int) := by have := hb2.1; have := hb2.2; constructor <;> omega
  have og : FloatKind.f64.format.order (ab y1) (ab y2) = some (compare (b1.natAbs : Int) (b2.natAbs : Int)) := (hy1.ab hb1).2.order (hy2.ab hb2).2 n1 n2
  generalize compare (b1.natAbs : Int) (b2.natAbs : Int) = cg at hge og
  clear o1 o2
  obtain rfl | rfl : cg = Ordering.eq ∨ cg = Ordering.gt := by cases cg <;> simp_all
  all_goals
    go_enter Try.func33, Try.ntmps33
    go_upto_region 1 with (first | ((with_reducible refine gate_dst (N := 2) rfl ?_); refine box_event ?hg (N := 2) ?hd (cs := #[.float .f64 x1, .float .f64 x2]) (t := 34) ?hr ?_; (case hd => rfl); (case hg => rfl); (case hr => first | (go_simp; done) | (go_simp; rfl)); intro g2 hg_ wg2 hbox_ hb_; have G_g2 := Aside0.mk (show w.heap.size ≤ g2 by rw [hg_]; exact below_size HB.out); have n_HB := Aside0.mk (below_step HB.out hb_); clear HB; have HB := n_HB; have S_g2 := Aside0.mk hbox_; clear n_HB  hg_ hbox_ hb_) | ((with_reducible refine gate_dst (N := 3) rfl ?_); refine box_event ?hg (N := 3) ?hd (cs := #[.float .f64 y1, .float .f64 y2]) (t := 34) ?hr ?_; (case hd => rfl); (case hg => rfl); (case hr => first | (go_simp; done) | (go_simp; rfl)); intro g3 hg_ wg3 hbox_ hb_; have G_g3 := Aside0.mk (show w.heap.size ≤ g3 by rw [hg_]; exact below_size HB.out); have N_g2_g3 := Aside0.mk (show g2 ≠ g3 by rw [hg_]; exact Nat.ne_of_lt (blk_lt S_g2.out)); have N_g3_g2 := Aside0.mk (N_g2_g3.out.symm); have n_g2 := Aside0.mk (blk_below S_g2.out hb_); have n_HB := Aside0.mk (below_step HB.out hb_); clear HB S_g2; have HB := n_HB; have S_g2 := n_g2; have S_g3 := Aside0.mk hbox_; clear n_HB n_g2 hg_ hbox_ hb_) | ((with_reducible refine gate_dst (N := 4) rfl ?_); refine box_event ?hg (N := 4) ?hd (cs := #[.float .f64 0, .float .f64 0]) (t := 34) ?hr ?_; (case hd => rfl); (case hg => rfl); (case hr => first | (go_simp; done) | (go_simp; rfl)); intro g4 hg_ wg4 hbox_ hb_; have G_g4 := Aside0.mk (show w.heap.size ≤ g4 by rw [hg_]; exact below_size HB.out); have N_g2_g4 := Aside0.mk (show g2 ≠ g4 by rw [hg_]; exact Nat.ne_of_lt (blk_lt S_g2.out)); have N_g4_g2 := Aside0.mk (N_g2_g4.out.symm); have N_g3_g4 := Aside0.mk (show g3 ≠ g4 by rw [hg_]; exact Nat.ne_of_lt (blk_lt S_g3.out)); have N_g4_g3 := Aside0.mk (N_g3_g4.out.symm); have n_g2 := Aside0.mk (blk_below S_g2.out hb_); have n_g3 := Aside0.mk (blk_below S_g3.out hb_); have n_HB := Aside0.mk (below_step HB.out hb_); clear HB S_g2 S_g3; have HB := n_HB; have S_g2 := n_g2; have S_g3 := n_g3; have S_g4 := Aside0.mk hbox_; clear n_HB n_g2 n_g3 hg_ hbox_ hb_))
    have c20 := (blk_cell S_g2.out 0).trans (show (#[.float .f64 x1, .float .f64 x2] : Array Value)[0]? = _ from rfl)
    have c21 := (blk_cell S_g2.out 1).trans (show (#[.float .f64 x1, .float .f64 x2] : Array Value)[1]? = _ from rfl)
    have c30 := (blk_cell S_g3.out 0).trans (show (#[.float .f64 y1, .float .f64 y2] : Array Value)[0]? = _ from rfl)
    have c31 := (blk_cell S_g3.out 1).trans (show (#[.float .f64 y1, .float .f64 y2] : Array Value)[1]? = _ from rfl)
    have c40 := (blk_cell S_g4.out 0).trans (show (#[.float .f64 0, .float .f64 0] : Array Value)[0]? = _ from rfl)
    have c41 := (blk_cell S_g4.out 1).trans (show (#[.float .f64 0, .float .f64 0] : Array Value)[1]? = _ from rfl)
    go_upto_region 3 with (first | (go_at_call 39; (with_reducible refine (finite.calls x1 a1 hx1 ha1 _).mono ?_); rintro e w11 ⟨rfl, ⟨nw11, rfl⟩⟩) | (go_at_call 39; (with_reducible refine (finite.calls x2 a2 hx2 ha2 _).mono ?_); rintro e w12 ⟨rfl, ⟨nw12, rfl⟩⟩) | (go_at_call 39; (with_reducible refine (finite.calls y1 b1 hy1 hb1 _).mono ?_); rintro e w13 ⟨rfl, ⟨nw13, rfl⟩⟩) | (go_at_call 39; (with_reducible refine (finite.calls y2 b2 hy2 hb2 _).mono ?_); rintro e w14 ⟨rfl, ⟨nw14, rfl⟩⟩))
    have STEP : ∀ W W' : World, (W.heap[g2]? = some (.cells #[.float .f64 x1, .float .f64 x2] 34 (0, 0)) ∧ W.heap[g3]? = some (.cells #[.float .f64 y1, .float .f64 y2] 34 (0, 0)) ∧ W.heap[g4]? = some (.cells #[.float .f64 0, .float .f64 0] 34 (0, 0)) ∧ Below w.heap.size w W) → Below W.heap.size W W' → (W'.heap[g2]? = some (.cells #[.float .f64 x1, .float .f64 x2] 34 (0, 0)) ∧ W'.heap[g3]? = some (.cells #[.float .f64 y1, .float .f64 y2] 34 (0, 0)) ∧ W'.heap[g4]? = some (.cells #[.float .f64 0, .float .f64 0] 34 (0, 0)) ∧ Below w.heap.size w W') := fun W W' h hb => ⟨blk_below h.1 hb, blk_below h.2.1 hb, blk_below h.2.2.1 hb, below_step h.2.2.2 hb⟩
    refine wp_region_held_drew (S := fun w' => (w'.heap[g2]? = some (.cells #[.float .f64 x1, .float .f64 x2] 34 (0, 0)) ∧ w'.heap[g3]? = some (.cells #[.float .f64 y1, .float .f64 y2] 34 (0, 0)) ∧ w'.heap[g4]? = some (.cells #[.float .f64 0, .float .f64 0] 34 (0, 0)) ∧ Below w.heap.size w w')) rfl (STEP _ _ ⟨S_g2.out, S_g3.out, S_g4.out, HB.out⟩ (below_drew1 (by first | exact pw_below_drewN (Below.refl _ _) _ | exact Below.refl _ _))) (fun HS => ?_)
    clear c20 c21 c30 c31 c40 c41
    refine Arl.take (i := 0) (v := ?_) rfl (by kernel_rfl) (by kernel_rfl) (by kernel_rfl) (fun _ _ _ h => h) (by rfl) ?_ HS ?_
    rotate_left
    · (intro w0 hS0; have c0 := (blk_cell hS0.2.1 0).trans (show (#[.float .f64 y1, .float .f64 y2] : Array Value)[0]? = _ from rfl); have c1 := (blk_cell hS0.2.1 1).trans (show (#[.float .f64 y1, .float .f64 y2] : Array Value)[1]? = _ from rfl); go_simp; try (with_reducible rfl))
    simp only [Act.put, List.setIfInBounds_toArray, List.set_cons_zero, List.set_cons_succ]
    refine Arl.take (i := 1) (v := ?_) rfl (by kernel_rfl) (by kernel_rfl) (by kernel_rfl) (fun _ _ _ h => h) (by rfl) ?_ HS ?_
    rotate_left
    · (intro w0 hS0; have c0 := (blk_cell hS0.2.1 0).trans (show (#[.float .f64 y1, .float .f64 y2] : Array Value)[0]? = _ from rfl); have c1 := (blk_cell hS0.2.1 1).trans (show (#[.float .f64 y1, .float .f64 y2] : Array Value)[1]? = _ from rfl); go_simp; try (with_reducible rfl))
    simp only [Act.put, List.setIfInBounds_toArray, List.set_cons_zero, List.set_cons_succ]
    refine Arl.take (i := 3) (v := ?_) rfl (by kernel_rfl) (by kernel_rfl) (by kernel_rfl) (fun _ _ _ h => h) (by rfl) ?_ HS ?_
    rotate_left
    · (intro w0 hS0; have c0 := (blk_cell hS0.2.1 0).trans (show (#[.float .f64 y1, .float .f64 y2] : Array Value)[0]? = _ from rfl); have c1 := (blk_cell hS0.2.1 1).trans (show (#[.float .f64 y1, .float .f64 y2] : Array Value)[1]? = _ from rfl); go_simp; try (with_reducible rfl))
    simp only [Act.put, List.setIfInBounds_toArray, List.set_cons_zero, List.set_cons_succ]
    refine Arl.take (i := 4) (v := ?_) rfl (by kernel_rfl) (by kernel_rfl) (by kernel_rfl) (fun _ _ _ h => h) (by rfl) ?_ HS ?_
    rotate_left
    · (intro w0 hS0; have c0 := (blk_cell hS0.2.1 0).trans (show (#[.float .f64 y1, .float .f64 y2] : Array Value)[0]? = _ from rfl); have c1 := (blk_cell hS0.2.1 1).trans (show (#[.float .f64 y1, .float .f64 y2] : Array Value)[1]? = _ from rfl); go_simp; try (with_reducible rfl))
    simp only [Act.put, List.setIfInBounds_toArray, List.set_cons_zero, List.set_cons_succ]
    refine wpAnyH_ready (rs := [2]) (by kernel_rfl) (by simp) ?_
    refine AllReadyH.cons (o := _) (Arl.nth_some rfl) (fun K hK => ?_) AllReadyH.nil
    go_simp
    go_at_call 40
    refine (absB.calls y1 _).mono ?_
    rintro e w5 ⟨rfl, hb⟩
    (try refine ⟨_, rfl, ?_⟩)
    have HS1 := STEP _ _ HS hb
    replace HS := HS1
    clear HS1 hb
    refine hK.out _ _ HS (fun HS => ?_)
    clear hK
    refine wpAnyH_ready (rs := [5]) (by kernel_rfl) (by simp) ?_
    refine AllReadyH.cons (o := _) (Arl.nth_some rfl) (fun K hK => ?_) AllReadyH.nil
    go_simp
    go_at_call 40
    refine (absB.calls y2 _).mono ?_
    rintro e w6 ⟨rfl, hb⟩
    (try refine ⟨_, rfl, ?_⟩)
    have HS1 := STEP _ _ HS hb
    replace HS := HS1
    clear HS1 hb
    refine hK.out _ _ HS (fun HS => ?_)
    clear hK
    refine Arl.take (i := 6) (v := ?_) rfl (by kernel_rfl) (by kernel_rfl) (by kernel_rfl) (fun _ _ _ h => h) (by rfl) ?_ HS ?_
    rotate_left
    · (intro w0 hS0; have c0 := (blk_cell hS0.2.1 0).trans (show (#[.float .f64 y1, .float .f64 y2] : Array Value)[0]? = _ from rfl); have c1 := (blk_cell hS0.2.1 1).trans (show (#[.float .f64 y1, .float .f64 y2] : Array Value)[1]? = _ from rfl); go_simp; try (with_reducible rfl))
    simp only [Act.put, List.setIfInBounds_toArray, List.set_cons_zero, List.set_cons_succ]
    refine wpAnyH_done (by kernel_rfl) ?_ _
    have c20 := (blk_cell HS.1 0).trans (show (#[.float .f64 x1, .float .f64 x2] : Array Value)[0]? = _ from rfl)
    have c21 := (blk_cell HS.1 1).trans (show (#[.float .f64 x1, .float .f64 x2] : Array Value)[1]? = _ from rfl)
    have c30 := (blk_cell HS.2.1 0).trans (show (#[.float .f64 y1, .float .f64 y2] : Array Value)[0]? = _ from rfl)
    have c31 := (blk_cell HS.2.1 1).trans (show (#[.float .f64 y1, .float .f64 y2] : Array Value)[1]? = _ from rfl)
    have c40 := (blk_cell HS.2.2.1 0).trans (show (#[.float .f64 0, .float .f64 0] : Array Value)[0]? = _ from rfl)
    have c41 := (blk_cell HS.2.2.1 1).trans (show (#[.float .f64 0, .float .f64 0] : Array Value)[1]? = _ from rfl)
    have f40 := blk_frozen HS.2.2.1 0
    have f41 := blk_frozen HS.2.2.1 1
    have T4 := Aside0.mk HS.2.2.1
    have TB := Aside0.mk HS.2.2.2
    clear HS
    go_wp2_with (first | ((with_reducible refine gate_dst (N := 54) rfl ?_); refine wpList_farith rfl rfl (by decide) rfl rfl ?_; intro r1 n1 h_; have V1 := Aside0.mk (W.quo hy2 hy1 hr h0 hb2 hb1 h_); clear h_) | ((with_reducible refine gate_dst (N := 60) rfl ?_); refine wpList_farith rfl rfl (by decide) rfl rfl ?_; intro r2 n2 h_; have V2 := Aside0.mk (W.mul V1.out hy2 k1 hb2 k2 h_); clear h_) | ((with_reducible refine gate_dst (N := 61) rfl ?_); refine wpList_farith rfl rfl (by decide) rfl rfl ?_; intro r3 n3 h_; have V3 := Aside0.mk (W.add hy1 V2.out hb1 k2 k3 h_); clear h_) | ((with_reducible refine gate_dst (N := 67) rfl ?_); refine wpList_farith rfl rfl (by decide) rfl rfl ?_; intro r4 n4 h_; have V4 := Aside0.mk (W.mul hx2 V1.out ha2 k1 k4 h_); clear h_) | ((with_reducible refine gate_dst (N := 68) rfl ?_); refine wpList_farith rfl rfl (by decide) rfl rfl ?_; intro r5 n5 h_; have V5 := Aside0.mk (W.add hx1 V4.out ha1 k4 k5 h_); clear h_) | ((with_reducible refine gate_dst (N := 70) rfl ?_); refine wpList_farith rfl rfl (by decide) rfl rfl ?_; intro r6 n6 h_; have V6 := Aside0.mk (W.quo V5.out V3.out e1 hd k5 k3 h_); clear h_) | ((with_reducible refine gate_dst (N := 76) rfl ?_); refine wpList_farith rfl rfl (by decide) rfl rfl ?_; intro r7 n7 h_; have V7 := Aside0.mk (W.mul hx1 V1.out ha1 k1 k6 h_); clear h_) | ((with_reducible refine gate_dst (N := 77) rfl ?_); refine wpList_farith rfl rfl (by decide) rfl rfl ?_; intro r8 n8 h_; have V8 := Aside0.mk (W.sub hx2 V7.out ha2 k6 k7 h_); clear h_) | ((with_reducible refine gate_dst (N := 79) rfl ?_); refine wpList_farith rfl rfl (by decide) rfl rfl ?_; intro r9 n9 h_; have V9 := Aside0.mk (W.quo V8.out V3.out e2 hd k7 k3 h_); clear h_))
    refine bodyPost_ret (results_list (rs := [.cell 4 34, .tmp 5]) rfl (by simp) (.cell g4 34 #[.float .f64 r6, .float .f64 r9] (0, 0) _ rfl (blk2 (blk_drewN T4.out _)) hu34 rfl (by kernel_rfl) (.tmp .nil))) rfl ?_
    exact ⟨_, _, rfl, V6.out, V9.out, below_set (below_set (pw_below_drewN TB.out _) G_g4.out) G_g4.out⟩
set_option maxHeartbeats 8000000 in
set_option maxRecDepth 100000 in
theorem quotB.calls (x1 x2 : Nat) (a1 a2 : Int) (hx1 : W .f64 x1 a1) (hx2 : W .f64 x2 a2) (ha1 : B a1) (ha2 : B a2) (y1 y2 : Nat) (b1 b2 : Int) (hy1 : W .f64 y1 b1) (hy2 : W .f64 y2 b2) (hb1 : B b1) (hb2 : B b2) (r q1 q2 : Int) (hb0 : b1 = 0) (hge : (compare (b1.natAbs : Int) (b2.natAbs : Int)) = .lt) (h0 : b2 ≠ 0) (hr : b1 = r * b2) (k1 : B r) (k2 : B (r * b1)) (k3 : B (b2 + r * b1)) (hd : b2 + r * b1 ≠ 0) (k4 : B (a1 * r)) (k5 : B (a1 * r + a2)) (e1 : a1 * r + a2 = q1 * (b2 + r * b1)) (k6 : B (a2 * r)) (k7 : B (a2 * r - a1)) (e2 : a2 * r - a1 = q2 * (b2 + r * b1)) (w : World) : Calls Try.prog 33 #[.agg #[.float .f64 x1, .float .f64 x2], .agg #[.float .f64 y1, .float .f64 y2]] w fun e w' => ∃ s1 s2, e = .returned (.tuple #[.agg #[.float .f64 s1, .float .f64 s2], .bool true]) ∧ W .f64 s1 q1 ∧ W .f64 s2 q2 ∧ Below w.heap.size w w' := by
  have hu22 := Try.underlying22
  have hu24 := Try.underlying24
  have hu26 := Try.underlying26
  have hu30 := Try.underlying30
  have hu32 := Try.underlying32
  have hu34 := Try.underlying34
  have hu64 := Try.underlying64
  have HB := Aside0.mk (Below.refl w.heap.size w)
  have hz : B 0 := by constructor <;> decide
  have o1 : FloatKind.f64.format.order y1 0 = some (compare b1 0) := hy1.order (W.zero _) hb1 hz
  have o2 : FloatKind.f64.format.order y2 0 = some (compare b2 0) := hy2.order (W.zero _) hb2 hz
  have o3 : (FloatKind.f64.format.order y2 0 == some .eq) = false := by
    rw [o2]
    have h9 : compare b2 0 ≠ .eq := fun h => h0 (by simpa [compare, compareOfLessAndEq] using Std.LawfulEqCmp.compare_eq_iff_eq.1 h)
    cases hc : compare b2 0 <;> simp_all
  have n1 : B (b1.natAbs : Int) := by have := hb1.1; have := hb1.2; constructor <;> omega
  have n2 : B (b2.natAbs : Int) := by have := hb2.1; have := hb2.2; constructor <;> omega
  have og : FloatKind.f64.format.order (ab y1) (ab y2) = some (compare (b1.natAbs : Int) (b2.natAbs : Int)) := (hy1.ab hb1).2.order (hy2.ab hb2).2 n1 n2
  have o4 : (FloatKind.f64.format.order y1 0 == some .eq) = true := by rw [o1, hb0]; rfl
  generalize compare (b1.natAbs : Int) (b2.natAbs : Int) = cg at hge og
  clear o1 o2
  subst hge
  all_goals
    go_enter Try.func33, Try.ntmps33
    go_upto_region 1 with (first | ((with_reducible refine gate_dst (N := 2) rfl ?_); refine box_event ?hg (N := 2) ?hd (cs := #[.float .f64 x1, .float .f64 x2]) (t := 34) ?hr ?_; (case hd => rfl); (case hg => rfl); (case hr => first | (go_simp; done) | (go_simp; rfl)); intro g2 hg_ wg2 hbox_ hb_; have G_g2 := Aside0.mk (show w.heap.size ≤ g2 by rw [hg_]; exact below_size HB.out); have n_HB := Aside0.mk (below_step HB.out hb_); clear HB; have HB := n_HB; have S_g2 := Aside0.mk hbox_; clear n_HB  hg_ hbox_ hb_) | ((with_reducible refine gate_dst (N := 3) rfl ?_); refine box_event ?hg (N := 3) ?hd (cs := #[.float .f64 y1, .float .f64 y2]) (t := 34) ?hr ?_; (case hd => rfl); (case hg => rfl); (case hr => first | (go_simp; done) | (go_simp; rfl)); intro g3 hg_ wg3 hbox_ hb_; have G_g3 := Aside0.mk (show w.heap.size ≤ g3 by rw [hg_]; exact below_size HB.out); have N_g2_g3 := Aside0.mk (show g2 ≠ g3 by rw [hg_]; exact Nat.ne_of_lt (blk_lt S_g2.out)); have N_g3_g2 := Aside0.mk (N_g2_g3.out.symm); have n_g2 := Aside0.mk (blk_below S_g2.out hb_); have n_HB := Aside0.mk (below_step HB.out hb_); clear HB S_g2; have HB := n_HB; have S_g2 := n_g2; have S_g3 := Aside0.mk hbox_; clear n_HB n_g2 hg_ hbox_ hb_) | ((with_reducible refine gate_dst (N := 4) rfl ?_); refine box_event ?hg (N := 4) ?hd (cs := #[.float .f64 0, .float .f64 0]) (t := 34) ?hr ?_; (case hd => rfl); (case hg => rfl); (case hr => first | (go_simp; done) | (go_simp; rfl)); intro g4 hg_ wg4 hbox_ hb_; have G_g4 := Aside0.mk (show w.heap.size ≤ g4 by rw [hg_]; exact below_size HB.out); have N_g2_g4 := Aside0.mk (show g2 ≠ g4 by rw [hg_]; exact Nat.ne_of_lt (blk_lt S_g2.out)); have N_g4_g2 := Aside0.mk (N_g2_g4.out.symm); have N_g3_g4 := Aside0.mk (show g3 ≠ g4 by rw [hg_]; exact Nat.ne_of_lt (blk_lt S_g3.out)); have N_g4_g3 := Aside0.mk (N_g3_g4.out.symm); have n_g2 := Aside0.mk (blk_below S_g2.out hb_); have n_g3 := Aside0.mk (blk_below S_g3.out hb_); have n_HB := Aside0.mk (below_step HB.out hb_); clear HB S_g2 S_g3; have HB := n_HB; have S_g2 := n_g2; have S_g3 := n_g3; have S_g4 := Aside0.mk hbox_; clear n_HB n_g2 n_g3 hg_ hbox_ hb_))
    have c20 := (blk_cell S_g2.out 0).trans (show (#[.float .f64 x1, .float .f64 x2] : Array Value)[0]? = _ from rfl)
    have c21 := (blk_cell S_g2.out 1).trans (show (#[.float .f64 x1, .float .f64 x2] : Array Value)[1]? = _ from rfl)
    have c30 := (blk_cell S_g3.out 0).trans (show (#[.float .f64 y1, .float .f64 y2] : Array Value)[0]? = _ from rfl)
    have c31 := (blk_cell S_g3.out 1).trans (show (#[.float .f64 y1, .float .f64 y2] : Array Value)[1]? = _ from rfl)
    have c40 := (blk_cell S_g4.out 0).trans (show (#[.float .f64 0, .float .f64 0] : Array Value)[0]? = _ from rfl)
    have c41 := (blk_cell S_g4.out 1).trans (show (#[.float .f64 0, .float .f64 0] : Array Value)[1]? = _ from rfl)
    go_upto_region 3 with (first | (go_at_call 39; (with_reducible refine (finite.calls x1 a1 hx1 ha1 _).mono ?_); rintro e w11 ⟨rfl, ⟨nw11, rfl⟩⟩) | (go_at_call 39; (with_reducible refine (finite.calls x2 a2 hx2 ha2 _).mono ?_); rintro e w12 ⟨rfl, ⟨nw12, rfl⟩⟩) | (go_at_call 39; (with_reducible refine (finite.calls y1 b1 hy1 hb1 _).mono ?_); rintro e w13 ⟨rfl, ⟨nw13, rfl⟩⟩) | (go_at_call 39; (with_reducible refine (finite.calls y2 b2 hy2 hb2 _).mono ?_); rintro e w14 ⟨rfl, ⟨nw14, rfl⟩⟩))
    have STEP : ∀ W W' : World, (W.heap[g2]? = some (.cells #[.float .f64 x1, .float .f64 x2] 34 (0, 0)) ∧ W.heap[g3]? = some (.cells #[.float .f64 y1, .float .f64 y2] 34 (0, 0)) ∧ W.heap[g4]? = some (.cells #[.float .f64 0, .float .f64 0] 34 (0, 0)) ∧ Below w.heap.size w W) → Below W.heap.size W W' → (W'.heap[g2]? = some (.cells #[.float .f64 x1, .float .f64 x2] 34 (0, 0)) ∧ W'.heap[g3]? = some (.cells #[.float .f64 y1, .float .f64 y2] 34 (0, 0)) ∧ W'.heap[g4]? = some (.cells #[.float .f64 0, .float .f64 0] 34 (0, 0)) ∧ Below w.heap.size w W') := fun W W' h hb => ⟨blk_below h.1 hb, blk_below h.2.1 hb, blk_below h.2.2.1 hb, below_step h.2.2.2 hb⟩
    refine wp_region_held_drew (S := fun w' => (w'.heap[g2]? = some (.cells #[.float .f64 x1, .float .f64 x2] 34 (0, 0)) ∧ w'.heap[g3]? = some (.cells #[.float .f64 y1, .float .f64 y2] 34 (0, 0)) ∧ w'.heap[g4]? = some (.cells #[.float .f64 0, .float .f64 0] 34 (0, 0)) ∧ Below w.heap.size w w')) rfl (STEP _ _ ⟨S_g2.out, S_g3.out, S_g4.out, HB.out⟩ (below_drew1 (by first | exact pw_below_drewN (Below.refl _ _) _ | exact Below.refl _ _))) (fun HS => ?_)
    clear c20 c21 c30 c31 c40 c41
    refine Arl.take (i := 0) (v := ?_) rfl (by kernel_rfl) (by kernel_rfl) (by kernel_rfl) (fun _ _ _ h => h) (by rfl) ?_ HS ?_
    rotate_left
    · (intro w0 hS0; have c0 := (blk_cell hS0.2.1 0).trans (show (#[.float .f64 y1, .float .f64 y2] : Array Value)[0]? = _ from rfl); have c1 := (blk_cell hS0.2.1 1).trans (show (#[.float .f64 y1, .float .f64 y2] : Array Value)[1]? = _ from rfl); go_simp; try (with_reducible rfl))
    simp only [Act.put, List.setIfInBounds_toArray, List.set_cons_zero, List.set_cons_succ]
    refine Arl.take (i := 1) (v := ?_) rfl (by kernel_rfl) (by kernel_rfl) (by kernel_rfl) (fun _ _ _ h => h) (by rfl) ?_ HS ?_
    rotate_left
    · (intro w0 hS0; have c0 := (blk_cell hS0.2.1 0).trans (show (#[.float .f64 y1, .float .f64 y2] : Array Value)[0]? = _ from rfl); have c1 := (blk_cell hS0.2.1 1).trans (show (#[.float .f64 y1, .float .f64 y2] : Array Value)[1]? = _ from rfl); go_simp; try (with_reducible rfl))
    simp only [Act.put, List.setIfInBounds_toArray, List.set_cons_zero, List.set_cons_succ]
    refine Arl.take (i := 3) (v := ?_) rfl (by kernel_rfl) (by kernel_rfl) (by kernel_rfl) (fun _ _ _ h => h) (by rfl) ?_ HS ?_
    rotate_left
    · (intro w0 hS0; have c0 := (blk_cell hS0.2.1 0).trans (show (#[.float .f64 y1, .float .f64 y2] : Array Value)[0]? = _ from rfl); have c1 := (blk_cell hS0.2.1 1).trans (show (#[.float .f64 y1, .float .f64 y2] : Array Value)[1]? = _ from rfl); go_simp; try (with_reducible rfl))
    simp only [Act.put, List.setIfInBounds_toArray, List.set_cons_zero, List.set_cons_succ]
    refine Arl.take (i := 4) (v := ?_) rfl (by kernel_rfl) (by kernel_rfl) (by kernel_rfl) (fun _ _ _ h => h) (by rfl) ?_ HS ?_
    rotate_left
    · (intro w0 hS0; have c0 := (blk_cell hS0.2.1 0).trans (show (#[.float .f64 y1, .float .f64 y2] : Array Value)[0]? = _ from rfl); have c1 := (blk_cell hS0.2.1 1).trans (show (#[.float .f64 y1, .float .f64 y2] : Array Value)[1]? = _ from rfl); go_simp; try (with_reducible rfl))
    simp only [Act.put, List.setIfInBounds_toArray, List.set_cons_zero, List.set_cons_succ]
    refine wpAnyH_ready (rs := [2]) (by kernel_rfl) (by simp) ?_
    refine AllReadyH.cons (o := _) (Arl.nth_some rfl) (fun K hK => ?_) AllReadyH.nil
    go_simp
    go_at_call 40
    refine (absB.calls y1 _).mono ?_
    rintro e w5 ⟨rfl, hb⟩
    (try refine ⟨_, rfl, ?_⟩)
    have HS1 := STEP _ _ HS hb
    replace HS := HS1
    clear HS1 hb
    refine hK.out _ _ HS (fun HS => ?_)
    clear hK
    refine wpAnyH_ready (rs := [5]) (by kernel_rfl) (by simp) ?_
    refine AllReadyH.cons (o := _) (Arl.nth_some rfl) (fun K hK => ?_) AllReadyH.nil
    go_simp
    go_at_call 40
    refine (absB.calls y2 _).mono ?_
    rintro e w6 ⟨rfl, hb⟩
    (try refine ⟨_, rfl, ?_⟩)
    have HS1 := STEP _ _ HS hb
    replace HS := HS1
    clear HS1 hb
    refine hK.out _ _ HS (fun HS => ?_)
    clear hK
    refine Arl.take (i := 6) (v := ?_) rfl (by kernel_rfl) (by kernel_rfl) (by kernel_rfl) (fun _ _ _ h => h) (by rfl) ?_ HS ?_
    rotate_left
    · (intro w0 hS0; have c0 := (blk_cell hS0.2.1 0).trans (show (#[.float .f64 y1, .float .f64 y2] : Array Value)[0]? = _ from rfl); have c1 := (blk_cell hS0.2.1 1).trans (show (#[.float .f64 y1, .float .f64 y2] : Array Value)[1]? = _ from rfl); go_simp; try (with_reducible rfl))
    simp only [Act.put, List.setIfInBounds_toArray, List.set_cons_zero, List.set_cons_succ]
    refine wpAnyH_done (by kernel_rfl) ?_ _
    have c20 := (blk_cell HS.1 0).trans (show (#[.float .f64 x1, .float .f64 x2] : Array Value)[0]? = _ from rfl)
    have c21 := (blk_cell HS.1 1).trans (show (#[.float .f64 x1, .float .f64 x2] : Array Value)[1]? = _ from rfl)
    have c30 := (blk_cell HS.2.1 0).trans (show (#[.float .f64 y1, .float .f64 y2] : Array Value)[0]? = _ from rfl)
    have c31 := (blk_cell HS.2.1 1).trans (show (#[.float .f64 y1, .float .f64 y2] : Array Value)[1]? = _ from rfl)
    have c40 := (blk_cell HS.2.2.1 0).trans (show (#[.float .f64 0, .float .f64 0] : Array Value)[0]? = _ from rfl)
    have c41 := (blk_cell HS.2.2.1 1).trans (show (#[.float .f64 0, .float .f64 0] : Array Value)[1]? = _ from rfl)
    have f40 := blk_frozen HS.2.2.1 0
    have f41 := blk_frozen HS.2.2.1 1
    have T4 := Aside0.mk HS.2.2.1
    have TB := Aside0.mk HS.2.2.2
    clear HS
    go_wp2_with (first | ((with_reducible refine gate_dst (N := 85) rfl ?_); refine wpList_farith rfl rfl (by decide) rfl rfl ?_; intro r1 n1 h_; have V1 := Aside0.mk (W.quo hy1 hy2 hr h0 hb1 hb2 h_); clear h_) | ((with_reducible refine gate_dst (N := 91) rfl ?_); refine wpList_farith rfl rfl (by decide) rfl rfl ?_; intro r2 n2 h_; have V2 := Aside0.mk (W.mul V1.out hy1 k1 hb1 k2 h_); clear h_) | ((with_reducible refine gate_dst (N := 92) rfl ?_); refine wpList_farith rfl rfl (by decide) rfl rfl ?_; intro r3 n3 h_; have V3 := Aside0.mk (W.add hy2 V2.out hb2 k2 k3 h_); clear h_) | ((with_reducible refine gate_dst (N := 96) rfl ?_); refine wpList_farith rfl rfl (by decide) rfl rfl ?_; intro r4 n4 h_; have V4 := Aside0.mk (W.mul hx1 V1.out ha1 k1 k4 h_); clear h_) | ((with_reducible refine gate_dst (N := 99) rfl ?_); refine wpList_farith rfl rfl (by decide) rfl rfl ?_; intro r5 n5 h_; have V5 := Aside0.mk (W.add V4.out hx2 k4 ha2 k5 h_); clear h_) | ((with_reducible refine gate_dst (N := 101) rfl ?_); refine wpList_farith rfl rfl (by decide) rfl rfl ?_; intro r6 n6 h_; have V6 := Aside0.mk (W.quo V5.out V3.out e1 hd k5 k3 h_); clear h_) | ((with_reducible refine gate_dst (N := 105) rfl ?_); refine wpList_farith rfl rfl (by decide) rfl rfl ?_; intro r7 n7 h_; have V7 := Aside0.mk (W.mul hx2 V1.out ha2 k1 k6 h_); clear h_) | ((with_reducible refine gate_dst (N := 108) rfl ?_); refine wpList_farith rfl rfl (by decide) rfl rfl ?_; intro r8 n8 h_; have V8 := Aside0.mk (W.sub V7.out hx1 k6 ha1 k7 h_); clear h_) | ((with_reducible refine gate_dst (N := 110) rfl ?_); refine wpList_farith rfl rfl (by decide) rfl rfl ?_; intro r9 n9 h_; have V9 := Aside0.mk (W.quo V8.out V3.out e2 hd k7 k3 h_); clear h_))
    refine bodyPost_ret (results_list (rs := [.cell 4 34, .tmp 5]) rfl (by simp) (.cell g4 34 #[.float .f64 r6, .float .f64 r9] (0, 0) _ rfl (blk2 (blk_drewN T4.out _)) hu34 rfl (by kernel_rfl) (.tmp .nil))) rfl ?_
    exact ⟨_, _, rfl, V6.out, V9.out, below_set (below_set (pw_below_drewN TB.out _) G_g4.out) G_g4.out⟩
end Go.Proofs.Ytplhdplebbhakaa.Qt
