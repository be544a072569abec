/- FnQuotients: the walk of the law itself. No condition. -/
import Derived.Test.YtplhdplebbhakaaPFnQuotientsx1
import Derived.Test.YtplhdplebbhakaaQt
set_option linter.unusedVariables false
set_option linter.unusedSimpArgs false
namespace Go.Proofs.Ytplhdplebbhakaa.PFnQuotients
open Go.RowKit Go.Proofs.YtplhdplebbhakaaW.PrintWords Go.Proofs.YtplhdplebbhakaaW.PrintLast Go.Proofs.YtplhdplebbhakaaW.PrintMore Go.Proofs.Ytplhdplebbhakaa.Fl Go.Proofs.Ytplhdplebbhakaa.Smp Go.Proofs.Ytplhdplebbhakaa.Wh Go.Proofs.Ytplhdplebbhakaa.Qt
def good (b1 b2 : Int) : Prop := (b1 = 1 ∧ b2 = 0) ∨ (b1 = -1 ∧ b2 = 0) ∨ (b1 = 0 ∧ b2 = 1) ∨ (b1 = 1 ∧ b2 = 1) ∨ (b1 = -1 ∧ b2 = 1) ∨ (b1 = 2 ∧ b2 = 0)
theorem wcast {k : FloatKind} {r : Nat} {z z' : Int} (h : W k r z) (e : z = z') : W k r z' := e ▸ h
def small (a : Int) : Prop := -300 ≤ a ∧ a ≤ 300
theorem small.B {a : Int} (h : small a) : B a := ⟨by have := h.1; omega, by have := h.2; omega⟩
theorem good.B {b1 b2 : Int} (h : good b1 b2) : B b1 ∧ B b2 := by
  rcases h with ⟨rfl, rfl⟩ | ⟨rfl, rfl⟩ | ⟨rfl, rfl⟩ | ⟨rfl, rfl⟩ | ⟨rfl, rfl⟩ | ⟨rfl, rfl⟩ <;> (constructor <;> constructor <;> decide)
theorem prods {a1 a2 b1 b2 : Int} (h1 : small a1) (h2 : small a2) (h : good b1 b2) : Wh.B (a1 * b1) ∧ Wh.B (a2 * b2) ∧ Wh.B (a1 * b2) ∧ Wh.B (a2 * b1) ∧ Wh.B (a1 * b1 - a2 * b2) ∧ Wh.B (a1 * b2 + a2 * b1) := by
  obtain ⟨q1, q2⟩ := h1
  obtain ⟨q3, q4⟩ := h2
  rcases h with ⟨rfl, rfl⟩ | ⟨rfl, rfl⟩ | ⟨rfl, rfl⟩ | ⟨rfl, rfl⟩ | ⟨rfl, rfl⟩ | ⟨rfl, rfl⟩ <;> (refine ⟨⟨?_, ?_⟩, ⟨?_, ?_⟩, ⟨?_, ?_⟩, ⟨?_, ?_⟩, ⟨?_, ?_⟩, ⟨?_, ?_⟩⟩ <;> omega)
theorem quotAll {a1 a2 b1 b2 : Int} (h1 : small a1) (h2 : small a2) (h : good b1 b2) (u1 u2 v1 v2 : Nat) (hu1 : W .f64 u1 (a1 * b1 - a2 * b2)) (hu2 : W .f64 u2 (a1 * b2 + a2 * b1)) (hv1 : W .f64 v1 b1) (hv2 : W .f64 v2 b2) (w : World) :
    Calls Try.prog 33 #[.agg #[.float .f64 u1, .float .f64 u2], .agg #[.float .f64 v1, .float .f64 v2]] w fun e w' => ∃ s1 s2, e = .returned (.tuple #[.agg #[.float .f64 s1, .float .f64 s2], .bool true]) ∧ W .f64 s1 a1 ∧ W .f64 s2 a2 ∧ Below w.heap.size w w' := by
  obtain ⟨q1, q2⟩ := h1
  obtain ⟨q3, q4⟩ := h2
  rcases h with ⟨rfl, rfl⟩ | ⟨rfl, rfl⟩ | ⟨rfl, rfl⟩ | ⟨rfl, rfl⟩ | ⟨rfl, rfl⟩ | ⟨rfl, rfl⟩
  · exact quotA.calls u1 u2 _ _ hu1 hu2 (by constructor <;> omega) (by constructor <;> omega) v1 v2 _ _ hv1 hv2 (by constructor <;> decide) (by constructor <;> decide) (0) a1 a2 (by decide) (by decide) (by decide) (by constructor <;> decide) (by constructor <;> decide) (by constructor <;> decide) (by decide) (by constructor <;> omega) (by constructor <;> omega) (by omega) (by constructor <;> omega) (by constructor <;> omega) (by omega) w
  · exact quotA.calls u1 u2 _ _ hu1 hu2 (by constructor <;> omega) (by constructor <;> omega) v1 v2 _ _ hv1 hv2 (by constructor <;> decide) (by constructor <;> decide) (0) a1 a2 (by decide) (by decide) (by decide) (by constructor <;> decide) (by constructor <;> decide) (by constructor <;> decide) (by decide) (by constructor <;> omega) (by constructor <;> omega) (by omega) (by constructor <;> omega) (by constructor <;> omega) (by omega) w
  · exact quotB.calls u1 u2 _ _ hu1 hu2 (by constructor <;> omega) (by constructor <;> omega) v1 v2 _ _ hv1 hv2 (by constructor <;> decide) (by constructor <;> decide) (0) a1 a2 rfl (by decide) (by decide) (by decide) (by constructor <;> decide) (by constructor <;> decide) (by constructor <;> decide) (by decide) (by constructor <;> omega) (by constructor <;> omega) (by omega) (by constructor <;> omega) (by constructor <;> omega) (by omega) w
  · exact quotA.calls u1 u2 _ _ hu1 hu2 (by constructor <;> omega) (by constructor <;> omega) v1 v2 _ _ hv1 hv2 (by constructor <;> decide) (by constructor <;> decide) (1) a1 a2 (by decide) (by decide) (by decide) (by constructor <;> decide) (by constructor <;> decide) (by constructor <;> decide) (by decide) (by constructor <;> omega) (by constructor <;> omega) (by omega) (by constructor <;> omega) (by constructor <;> omega) (by omega) w
  · exact quotA.calls u1 u2 _ _ hu1 hu2 (by constructor <;> omega) (by constructor <;> omega) v1 v2 _ _ hv1 hv2 (by constructor <;> decide) (by constructor <;> decide) (-1) a1 a2 (by decide) (by decide) (by decide) (by constructor <;> decide) (by constructor <;> decide) (by constructor <;> decide) (by decide) (by constructor <;> omega) (by constructor <;> omega) (by omega) (by constructor <;> omega) (by constructor <;> omega) (by omega) w
  · exact quotA.calls u1 u2 _ _ hu1 hu2 (by constructor <;> omega) (by constructor <;> omega) v1 v2 _ _ hv1 hv2 (by constructor <;> decide) (by constructor <;> decide) (0) a1 a2 (by decide) (by decide) (by decide) (by constructor <;> decide) (by constructor <;> decide) (by constructor <;> decide) (by decide) (by constructor <;> omega) (by constructor <;> omega) (by omega) (by constructor <;> omega) (by constructor <;> omega) (by omega) w

theorem sameW.calls (x1 x2 y1 y2 : Nat) (a1 a2 : Int) (hx1 : W .f32 x1 a1) (hx2 : W .f32 x2 a2) (hy1 : W .f32 y1 a1) (hy2 : W .f32 y2 a2) (ha1 : Wh.B a1) (ha2 : Wh.B a2) (w : World) : Calls Try.prog 14 #[.agg #[.float .f32 x1, .float .f32 x2], .agg #[.float .f32 y1, .float .f32 y2]] w fun e w' => e = .returned (.bool true) ∧ Below w.heap.size w w' := by
  have o1 : FloatKind.f32.format.order x1 y1 = some .eq := by rw [hx1.order hy1 ha1 ha1]; simp [compare, compareOfLessAndEq]
  have o2 : FloatKind.f32.format.order x2 y2 = some .eq := by rw [hx2.order hy2 ha2 ha2]; simp [compare, compareOfLessAndEq]
  have h := impl_SameSample.calls x1 x2 y1 y2 w
  rw [o1, o2] at h
  exact h
set_option maxHeartbeats 80000000 in
set_option maxRecDepth 100000 in
theorem alikeW.calls (x1 x2 y1 y2 : Nat) (a1 a2 : Int) (hx1 : W .f32 x1 a1) (hx2 : W .f32 x2 a2) (hy1 : W .f32 y1 a1) (hy2 : W .f32 y2 a2) (ha1 : Wh.B a1) (ha2 : Wh.B a2) (w : World) : Calls Try.prog 34 #[.agg #[.float .f32 x1, .float .f32 x2], .agg #[.float .f32 y1, .float .f32 y2]] w fun e w' => e = .returned (.bool true) ∧ Below w.heap.size w w' := by
  have hu22 := Try.underlying22
  have hu24 := Try.underlying24
  have hu26 := Try.underlying26
  have hu30 := Try.underlying30
  have hu34 := Try.underlying34
  have o1 : FloatKind.f32.format.order x1 y1 = some .eq := by rw [hx1.order hy1 ha1 ha1]; simp [compare, compareOfLessAndEq]
  have o2 : FloatKind.f32.format.order x2 y2 = some .eq := by rw [hx2.order hy2 ha2 ha2]; simp [compare, compareOfLessAndEq]
  go_enter Try.func34, Try.ntmps34
  go_wp2
  go_returns
  exact ⟨by first | rfl | (simp [o1, o2]; done), by repeat (first | (with_reducible first | exact Below.refl _ _ | apply below_alloc | apply pw_below_drewN | apply below_drew1))⟩
theorem alloc_size2 (w : World) (o : Obj) : (w.alloc o).heap.size = w.heap.size + 1 := by show (w.heap.push o).size = _; simp
theorem alloc_at2 {w : World} {n : Nat} (h : w.heap.size = n) (o : Obj) : (w.alloc o).heap[n]? = some o := by subst h; exact blk_new w o
theorem wone : W .f32 1065353216 1 := ⟨false, by decide +kernel, by decide⟩
theorem wneg : W .f32 3212836864 (-1) := ⟨true, by decide +kernel, by decide⟩
theorem wtwo : W .f32 1073741824 2 := ⟨false, by decide +kernel, by decide⟩
theorem store_step {P : Program} {ops : Array Oper} {o : Oper} {a : Act} {Q : Exit → Act → World → Prop} {W : World} {Kc : Act → World → Prop} (hw : Region.wanted o (yielded ops a.tmps) = true) {T : TypeId} {p : Tmp} {v : Operand} (ho : o.op = .store T (.tmp p) v) (hN : o.dst = none) {g : Nat} {old cs : Array Value} {t : TypeId}
    (hp : a.eval (.tmp p) = .pointer (some ⟨g, 0, none⟩)) (hv : a.eval v = .agg cs) (hb : W.heap[g]? = some (.cells old t (0, 0))) (hi : (P.info? T).map (·.size) = some cs.size) (hs : old.size = cs.size)
    (h1 : cs.all (·.oneCell') = true)
    (h : ∀ w', w'.heap[g]? = some (.cells cs t (0, 0)) → (∀ k, k ≠ g → w'.heap[k]? = W.heap[k]?) → (∀ (B : Nat) (w0 : World), Below B w0 W → B ≤ g → Below B w0 w') → Kc a w') :
    if Region.wanted o (yielded ops a.tmps) = true then Oper.wp P o a W Kc Q else Kc (a.put o.dst undef) W := by
  rw [if_pos hw]
  have hrun : (Instr.storeAt T (.pointer (some ⟨g, 0, none⟩)) (.agg cs)).run P W = .ok () (W.setRow g cs) := by
    simp only [Instr.storeAt, Instr.sureAddr, Sem.run_bind, Sem.run_pure, Result.andThen_ok, run_storeVar_row W g t T old cs hb hi hs h1]
  have hrow : (W.setRow g cs).heap[g]? = some (.cells cs t (0, 0)) := by
    simp [World.setRow, Array.getElem?_modify, hb]
  have hexec : (execOp a.eval o).run P W = .ok .skip (W.setRow g cs) := by
    simp only [execOp, ho, hp, hv]
    simp [hrun, Result.andThen]
  unfold Oper.wp
  rw [hexec]
  show Kc (a.put o.dst undef) (W.setRow g cs)
  rw [hN]
  exact h _ hrow (fun k hk => setRow_other W g k cs hk) (fun B w0 hB hg => below_setRow hB hg cs)

set_option maxHeartbeats 80000000 in
set_option maxRecDepth 100000 in
theorem quotS.calls (x1 x2 : Nat) (a1 a2 : Int) (hx1 : W .f32 x1 a1) (hx2 : W .f32 x2 a2) (ha1 : Wh.B a1) (ha2 : Wh.B a2) (y1 y2 : Nat) (b1 b2 : Int) (hy1 : W .f32 y1 b1) (hy2 : W .f32 y2 b2) (hb1 : Wh.B b1) (hb2 : Wh.B b2) (q1 q2 : Int) (ok : Bool) (k1 : Wh.B q1) (k2 : Wh.B q2)
    (HQ : ∀ (u1 u2 v1 v2 : Nat), W .f64 u1 a1 → W .f64 u2 a2 → W .f64 v1 b1 → W .f64 v2 b2 → ∀ w, Calls Try.prog 33 #[.agg #[.float .f64 u1, .float .f64 u2], .agg #[.float .f64 v1, .float .f64 v2]] w fun e w' => ∃ s1 s2, e = .returned (.tuple #[.agg #[.float .f64 s1, .float .f64 s2], .bool ok]) ∧ W .f64 s1 q1 ∧ W .f64 s2 q2 ∧ Below w.heap.size w w') (w : World) :
    Calls Try.prog 32 #[.agg #[.float .f32 x1, .float .f32 x2], .agg #[.float .f32 y1, .float .f32 y2]] w fun e w' => ∃ t1 t2, e = .returned (.tuple #[.agg #[.float .f32 t1, .float .f32 t2], .bool ok]) ∧ W .f32 t1 q1 ∧ W .f32 t2 q2 ∧ Below w.heap.size w w' := by
  have hu22 := Try.underlying22
  have hu24 := Try.underlying24
  have hu26 := Try.underlying26
  have hu30 := Try.underlying30
  have hu34 := Try.underlying34
  have HB := Aside0.mk (Below.refl w.heap.size w)
  go_enter Try.func32, Try.ntmps32
  go_upto_region 1 with (first | ((with_reducible refine gate_dst (N := 2) rfl ?_); refine box_event ?hg (N := 2) ?hd (cs := #[.float .f32 x1, .float .f32 x2]) (t := 26) ?hr ?_; (case hd => rfl); (case hg => rfl); (case hr => first | (go_simp; done) | (go_simp; rfl)); intro g3 hg_ wg3 hbox_ hb_; have G_g3 := Aside0.mk (show w.heap.size ≤ g3 by rw [hg_]; exact below_size HB.out); have n_HB := Aside0.mk (below_step HB.out hb_); clear HB; have HB := n_HB; have S_g3 := Aside0.mk hbox_; clear n_HB  hg_ hbox_ hb_) | ((with_reducible refine gate_dst (N := 3) rfl ?_); refine box_event ?hg (N := 3) ?hd (cs := #[.float .f32 y1, .float .f32 y2]) (t := 26) ?hr ?_; (case hd => rfl); (case hg => rfl); (case hr => first | (go_simp; done) | (go_simp; rfl)); intro g4 hg_ wg4 hbox_ hb_; have G_g4 := Aside0.mk (show w.heap.size ≤ g4 by rw [hg_]; exact below_size HB.out); have n_g3 := Aside0.mk (blk_below S_g3.out hb_); have n_HB := Aside0.mk (below_step HB.out hb_); clear HB S_g3; have HB := n_HB; have S_g3 := n_g3; have S_g4 := Aside0.mk hbox_; clear n_HB n_g3 hg_ hbox_ hb_) | ((with_reducible refine gate_dst (N := 4) rfl ?_); refine box_event ?hg (N := 4) ?hd (cs := #[.float .f32 0, .float .f32 0]) (t := 26) ?hr ?_; (case hd => rfl); (case hg => rfl); (case hr => first | (go_simp; done) | (go_simp; rfl)); intro gR hg_ wgR hbox_ hb_; have G_gR := Aside0.mk (show w.heap.size ≤ gR by rw [hg_]; exact below_size HB.out); have n_g3 := Aside0.mk (blk_below S_g3.out hb_); have n_g4 := Aside0.mk (blk_below S_g4.out hb_); have n_HB := Aside0.mk (below_step HB.out hb_); clear HB S_g3 S_g4; have HB := n_HB; have S_g3 := n_g3; have S_g4 := n_g4; have S_gR := Aside0.mk hbox_; clear n_HB n_g3 n_g4 hg_ hbox_ hb_))
  go_cut [6, 7] (fun v6 v7 wd => ∃ g s1 s2 : Nat, v6 = .pointer (some ⟨g, 0, none⟩) ∧ v7 = .bool ok ∧ Aside0 (wd.heap[g]? = some (.cells #[.float .f64 s1, .float .f64 s2] 34 (0, 0))) ∧ Aside0 (wd.heap[gR]? = some (.cells #[.float .f32 0, .float .f32 0] 26 (0, 0))) ∧ Aside0 (W .f64 s1 q1) ∧ Aside0 (W .f64 s2 q2) ∧ Aside0 (Below w.heap.size w wd))
  case first =>
    have STEP : ∀ W W' : World, (W.heap[g3]? = some (.cells #[.float .f32 x1, .float .f32 x2] 26 (0, 0)) ∧ W.heap[g4]? = some (.cells #[.float .f32 y1, .float .f32 y2] 26 (0, 0)) ∧ W.heap[gR]? = some (.cells #[.float .f32 0, .float .f32 0] 26 (0, 0)) ∧ Below w.heap.size w W) → Below W.heap.size W W' → (W'.heap[g3]? = some (.cells #[.float .f32 x1, .float .f32 x2] 26 (0, 0)) ∧ W'.heap[g4]? = some (.cells #[.float .f32 y1, .float .f32 y2] 26 (0, 0)) ∧ W'.heap[gR]? = some (.cells #[.float .f32 0, .float .f32 0] 26 (0, 0)) ∧ Below w.heap.size w W') := fun W W' h hb => ⟨blk_below h.1 hb, blk_below h.2.1 hb, blk_below h.2.2.1 hb, below_step h.2.2.2 hb⟩
    refine wp_region_held_drew (S := fun w' => (w'.heap[g3]? = some (.cells #[.float .f32 x1, .float .f32 x2] 26 (0, 0)) ∧ w'.heap[g4]? = some (.cells #[.float .f32 y1, .float .f32 y2] 26 (0, 0)) ∧ w'.heap[gR]? = some (.cells #[.float .f32 0, .float .f32 0] 26 (0, 0)) ∧ Below w.heap.size w w')) rfl (STEP _ _ ⟨S_g3.out, S_g4.out, S_gR.out, HB.out⟩ (below_drew1 (Below.refl _ _))) (fun HS => ?_)
    refine Arl.take (i := 0) (v := .agg #[.float .f32 x1, .float .f32 x2]) rfl (by kernel_rfl) (by kernel_rfl) (by kernel_rfl) (fun _ _ _ h => h) (by rfl) (fun W hW => load_run rfl rfl hW.1 hu26 rfl (by kernel_rfl)) HS ?_
    simp only [Act.put, List.setIfInBounds_toArray, List.set_cons_zero, List.set_cons_succ]
    refine Arl.take (i := 2) (v := .agg #[.float .f32 y1, .float .f32 y2]) rfl (by kernel_rfl) (by kernel_rfl) (by kernel_rfl) (fun _ _ _ h => h) (by rfl) (fun W hW => load_run rfl rfl hW.2.1 hu26 rfl (by kernel_rfl)) HS ?_
    simp only [Act.put, List.setIfInBounds_toArray, List.set_cons_zero, List.set_cons_succ]
    refine wpAnyH_ready (rs := [1, 8]) (by kernel_rfl) (by simp) ?_
    refine AllReadyH.cons (o := _) (Arl.nth_some rfl) (fun K hK => ?_) (AllReadyH.cons (o := _) (Arl.nth_some rfl) (fun K hK => ?_) AllReadyH.nil)
    · skip
      go_simp
      go_at_call 24
      refine (widenW.calls x1 x2 a1 a2 hx1 hx2 ha1 ha2 _).mono ?_
      rintro e w147 ⟨u1, u2, rfl, hu1, hu2, hb⟩
      (try refine ⟨_, rfl, ?_⟩)
      have HS1 := STEP _ _ HS hb
      replace HS := HS1
      clear HS1 hb
      refine hK.out _ _ HS (fun HS => ?_)
      clear hK
      refine wpAnyH_ready (rs := [3, 8]) (by kernel_rfl) (by simp) ?_
      refine AllReadyH.cons (o := _) (Arl.nth_some rfl) (fun K hK => ?_) (AllReadyH.cons (o := _) (Arl.nth_some rfl) (fun K hK => ?_) AllReadyH.nil)
      · skip
        go_simp
        go_at_call 24
        refine (widenW.calls y1 y2 b1 b2 hy1 hy2 hb1 hb2 _).mono ?_
        rintro e w148 ⟨v1, v2, rfl, hv1, hv2, hb⟩
        (try refine ⟨_, rfl, ?_⟩)
        have HS1 := STEP _ _ HS hb
        replace HS := HS1
        clear HS1 hb
        refine hK.out _ _ HS (fun HS => ?_)
        clear hK
        refine wpAnyH_ready (rs := [4, 8]) (by kernel_rfl) (by simp) ?_
        refine AllReadyH.cons (o := _) (Arl.nth_some rfl) (fun K hK => ?_) (AllReadyH.cons (o := _) (Arl.nth_some rfl) (fun K hK => ?_) AllReadyH.nil)
        · skip
          go_simp
          go_at_call 33
          refine (HQ u1 u2 v1 v2 hu1 hu2 hv1 hv2 _).mono ?_
          rintro e w149 ⟨s1, s2, rfl, hs1, hs2, hb⟩
          (try refine ⟨_, rfl, ?_⟩)
          have HS1 := STEP _ _ HS hb
          replace HS := HS1
          clear HS1 hb
          refine hK.out _ _ HS (fun HS => ?_)
          clear hK
          refine Arl.take (i := 5) (v := ?_) rfl (by kernel_rfl) (by kernel_rfl) (by kernel_rfl) (fun _ _ _ h => h) (by rfl) ?_ HS ?_
          rotate_left
          · (intro w0 hS0; go_simp; try (with_reducible rfl))
          simp only [Act.put, List.setIfInBounds_toArray, List.set_cons_zero, List.set_cons_succ]
          refine Arl.take (i := 6) (v := ?_) rfl (by kernel_rfl) (by kernel_rfl) (by kernel_rfl) (fun _ _ _ h => h) (by rfl) ?_ HS ?_
          rotate_left
          · (intro w0 hS0; go_simp; try (with_reducible rfl))
          simp only [Act.put, List.setIfInBounds_toArray, List.set_cons_zero, List.set_cons_succ]
          refine Arl.take (i := 7) (v := ?_) rfl (by kernel_rfl) (by kernel_rfl) (by kernel_rfl) (fun _ _ _ h => h) (by rfl) ?_ HS ?_
          rotate_left
          · (intro w0 hS0; go_simp; try (with_reducible rfl))
          simp only [Act.put, List.setIfInBounds_toArray, List.set_cons_zero, List.set_cons_succ]
          refine wpAnyH_ready (rs := [8]) (by kernel_rfl) (by simp) ?_
          refine AllReadyH.cons (o := _) (Arl.nth_some rfl) (fun K hK => ?_) AllReadyH.nil
          refine box_step (by rfl) (N := 6) rfl (cs := #[.float .f64 0, .float .f64 0]) (t := 34) (by first | (go_simp; done) | (go_simp; rfl)) ?_
          intro g6 hg_ w150 hbox_ hb
          have K6 := Aside0.mk hbox_
          have G6 := Aside0.mk (show w.heap.size ≤ g6 by rw [hg_]; exact below_size HS.2.2.2)
          have N63 := Aside0.mk (show g6 ≠ g3 by rw [hg_]; exact Nat.ne_of_gt (blk_lt HS.1))
          have N64 := Aside0.mk (show g6 ≠ g4 by rw [hg_]; exact Nat.ne_of_gt (blk_lt HS.2.1))
          have N6R := Aside0.mk (show g6 ≠ gR by rw [hg_]; exact Nat.ne_of_gt (blk_lt HS.2.2.1))
          have HS1 := STEP _ _ HS hb
          replace HS := HS1
          clear HS1 hb hg_ hbox_
          refine hK.out _ _ HS (fun HS => ?_)
          clear hK
          refine wpAnyH_ready (rs := [9]) (by kernel_rfl) (by simp) ?_
          refine AllReadyH.cons (o := _) (Arl.nth_some rfl) (fun K hK => ?_) AllReadyH.nil
          refine store_step (by rfl) (T := 34) (p := 6) (g := g6) (old := #[.float .f64 0, .float .f64 0]) (cs := #[.float .f64 s1, .float .f64 s2]) (t := 34) rfl rfl rfl rfl K6.out (by kernel_rfl) rfl (by simp [Value.oneCell']) ?_
          intro w151 hs_ hk_ hB_
          have K7 := Aside0.mk hs_
          have HS1 := (show _ ∧ _ ∧ _ ∧ _ from ⟨(hk_ _ N63.out.symm).trans HS.1, (hk_ _ N64.out.symm).trans HS.2.1, (hk_ _ N6R.out.symm).trans HS.2.2.1, hB_ _ _ HS.2.2.2 G6.out⟩)
          replace HS := HS1
          clear HS1 hs_ hk_ hB_ K6
          refine hK.out _ _ HS (fun HS => ?_)
          clear hK
          refine Arl.take (i := 10) (v := ?_) rfl (by kernel_rfl) (by kernel_rfl) (by kernel_rfl) (fun _ _ _ h => h) (by rfl) ?_ HS ?_
          rotate_left
          · (intro w0 hS0; go_simp; try (with_reducible rfl))
          simp only [Act.put, List.setIfInBounds_toArray, List.set_cons_zero, List.set_cons_succ]
          refine wpAnyH_done (by kernel_rfl) ?_ _
          go_wp2_with fail
          go_meet
          case rel => exact ⟨g6, s1, s2, rfl, rfl, K7, ⟨HS.2.2.1⟩, ⟨hs1⟩, ⟨hs2⟩, ⟨HS.2.2.2⟩⟩
        · skip
          refine box_step (by rfl) (N := 6) rfl (cs := #[.float .f64 0, .float .f64 0]) (t := 34) (by first | (go_simp; done) | (go_simp; rfl)) ?_
          intro g6 hg_ w152 hbox_ hb
          have K6 := Aside0.mk hbox_
          have G6 := Aside0.mk (show w.heap.size ≤ g6 by rw [hg_]; exact below_size HS.2.2.2)
          have N63 := Aside0.mk (show g6 ≠ g3 by rw [hg_]; exact Nat.ne_of_gt (blk_lt HS.1))
          have N64 := Aside0.mk (show g6 ≠ g4 by rw [hg_]; exact Nat.ne_of_gt (blk_lt HS.2.1))
          have N6R := Aside0.mk (show g6 ≠ gR by rw [hg_]; exact Nat.ne_of_gt (blk_lt HS.2.2.1))
          have HS1 := STEP _ _ HS hb
          replace HS := HS1
          clear HS1 hb hg_ hbox_
          refine hK.out _ _ HS (fun HS => ?_)
          clear hK
          refine wpAnyH_ready (rs := [4]) (by kernel_rfl) (by simp) ?_
          refine AllReadyH.cons (o := _) (Arl.nth_some rfl) (fun K hK => ?_) AllReadyH.nil
          go_simp
          go_at_call 33
          refine (HQ u1 u2 v1 v2 hu1 hu2 hv1 hv2 _).mono ?_
          rintro e w153 ⟨s1, s2, rfl, hs1, hs2, hb⟩
          (try refine ⟨_, rfl, ?_⟩)
          have HS1 := STEP _ _ HS hb
          have n6 := Aside0.mk (blk_below K6.out hb)
          have nG := Aside0.mk (Nat.le_refl 0)
          clear K6 nG
          have K6 := n6
          clear n6
          replace HS := HS1
          clear HS1 hb
          refine hK.out _ _ HS (fun HS => ?_)
          clear hK
          refine Arl.take (i := 5) (v := ?_) rfl (by kernel_rfl) (by kernel_rfl) (by kernel_rfl) (fun _ _ _ h => h) (by rfl) ?_ HS ?_
          rotate_left
          · (intro w0 hS0; go_simp; try (with_reducible rfl))
          simp only [Act.put, List.setIfInBounds_toArray, List.set_cons_zero, List.set_cons_succ]
          refine Arl.take (i := 6) (v := ?_) rfl (by kernel_rfl) (by kernel_rfl) (by kernel_rfl) (fun _ _ _ h => h) (by rfl) ?_ HS ?_
          rotate_left
          · (intro w0 hS0; go_simp; try (with_reducible rfl))
          simp only [Act.put, List.setIfInBounds_toArray, List.set_cons_zero, List.set_cons_succ]
          refine Arl.take (i := 7) (v := ?_) rfl (by kernel_rfl) (by kernel_rfl) (by kernel_rfl) (fun _ _ _ h => h) (by rfl) ?_ HS ?_
          rotate_left
          · (intro w0 hS0; go_simp; try (with_reducible rfl))
          simp only [Act.put, List.setIfInBounds_toArray, List.set_cons_zero, List.set_cons_succ]
          refine wpAnyH_ready (rs := [9]) (by kernel_rfl) (by simp) ?_
          refine AllReadyH.cons (o := _) (Arl.nth_some rfl) (fun K hK => ?_) AllReadyH.nil
          refine store_step (by rfl) (T := 34) (p := 6) (g := g6) (old := #[.float .f64 0, .float .f64 0]) (cs := #[.float .f64 s1, .float .f64 s2]) (t := 34) rfl rfl rfl rfl K6.out (by kernel_rfl) rfl (by simp [Value.oneCell']) ?_
          intro w154 hs_ hk_ hB_
          have K7 := Aside0.mk hs_
          have HS1 := (show _ ∧ _ ∧ _ ∧ _ from ⟨(hk_ _ N63.out.symm).trans HS.1, (hk_ _ N64.out.symm).trans HS.2.1, (hk_ _ N6R.out.symm).trans HS.2.2.1, hB_ _ _ HS.2.2.2 G6.out⟩)
          replace HS := HS1
          clear HS1 hs_ hk_ hB_ K6
          refine hK.out _ _ HS (fun HS => ?_)
          clear hK
          refine Arl.take (i := 10) (v := ?_) rfl (by kernel_rfl) (by kernel_rfl) (by kernel_rfl) (fun _ _ _ h => h) (by rfl) ?_ HS ?_
          rotate_left
          · (intro w0 hS0; go_simp; try (with_reducible rfl))
          simp only [Act.put, List.setIfInBounds_toArray, List.set_cons_zero, List.set_cons_succ]
          refine wpAnyH_done (by kernel_rfl) ?_ _
          go_wp2_with fail
          go_meet
          case rel => exact ⟨g6, s1, s2, rfl, rfl, K7, ⟨HS.2.2.1⟩, ⟨hs1⟩, ⟨hs2⟩, ⟨HS.2.2.2⟩⟩
      · skip
        refine box_step (by rfl) (N := 6) rfl (cs := #[.float .f64 0, .float .f64 0]) (t := 34) (by first | (go_simp; done) | (go_simp; rfl)) ?_
        intro g6 hg_ w155 hbox_ hb
        have K6 := Aside0.mk hbox_
        have G6 := Aside0.mk (show w.heap.size ≤ g6 by rw [hg_]; exact below_size HS.2.2.2)
        have N63 := Aside0.mk (show g6 ≠ g3 by rw [hg_]; exact Nat.ne_of_gt (blk_lt HS.1))
        have N64 := Aside0.mk (show g6 ≠ g4 by rw [hg_]; exact Nat.ne_of_gt (blk_lt HS.2.1))
        have N6R := Aside0.mk (show g6 ≠ gR by rw [hg_]; exact Nat.ne_of_gt (blk_lt HS.2.2.1))
        have HS1 := STEP _ _ HS hb
        replace HS := HS1
        clear HS1 hb hg_ hbox_
        refine hK.out _ _ HS (fun HS => ?_)
        clear hK
        refine wpAnyH_ready (rs := [3]) (by kernel_rfl) (by simp) ?_
        refine AllReadyH.cons (o := _) (Arl.nth_some rfl) (fun K hK => ?_) AllReadyH.nil
        go_simp
        go_at_call 24
        refine (widenW.calls y1 y2 b1 b2 hy1 hy2 hb1 hb2 _).mono ?_
        rintro e w156 ⟨v1, v2, rfl, hv1, hv2, hb⟩
        (try refine ⟨_, rfl, ?_⟩)
        have HS1 := STEP _ _ HS hb
        have n6 := Aside0.mk (blk_below K6.out hb)
        have nG := Aside0.mk (Nat.le_refl 0)
        clear K6 nG
        have K6 := n6
        clear n6
        replace HS := HS1
        clear HS1 hb
        refine hK.out _ _ HS (fun HS => ?_)
        clear hK
        refine wpAnyH_ready (rs := [4]) (by kernel_rfl) (by simp) ?_
        refine AllReadyH.cons (o := _) (Arl.nth_some rfl) (fun K hK => ?_) AllReadyH.nil
        go_simp
        go_at_call 33
        refine (HQ u1 u2 v1 v2 hu1 hu2 hv1 hv2 _).mono ?_
        rintro e w157 ⟨s1, s2, rfl, hs1, hs2, hb⟩
        (try refine ⟨_, rfl, ?_⟩)
        have HS1 := STEP _ _ HS hb
        have n6 := Aside0.mk (blk_below K6.out hb)
        have nG := Aside0.mk (Nat.le_refl 0)
        clear K6 nG
        have K6 := n6
        clear n6
        replace HS := HS1
        clear HS1 hb
        refine hK.out _ _ HS (fun HS => ?_)
        clear hK
        refine Arl.take (i := 5) (v := ?_) rfl (by kernel_rfl) (by kernel_rfl) (by kernel_rfl) (fun _ _ _ h => h) (by rfl) ?_ HS ?_
        rotate_left
        · (intro w0 hS0; go_simp; try (with_reducible rfl))
        simp only [Act.put, List.setIfInBounds_toArray, List.set_cons_zero, List.set_cons_succ]
        refine Arl.take (i := 6) (v := ?_) rfl (by kernel_rfl) (by kernel_rfl) (by kernel_rfl) (fun _ _ _ h => h) (by rfl) ?_ HS ?_
        rotate_left
        · (intro w0 hS0; go_simp; try (with_reducible rfl))
        simp only [Act.put, List.setIfInBounds_toArray, List.set_cons_zero, List.set_cons_succ]
        refine Arl.take (i := 7) (v := ?_) rfl (by kernel_rfl) (by kernel_rfl) (by kernel_rfl) (fun _ _ _ h => h) (by rfl) ?_ HS ?_
        rotate_left
        · (intro w0 hS0; go_simp; try (with_reducible rfl))
        simp only [Act.put, List.setIfInBounds_toArray, List.set_cons_zero, List.set_cons_succ]
        refine wpAnyH_ready (rs := [9]) (by kernel_rfl) (by simp) ?_
        refine AllReadyH.cons (o := _) (Arl.nth_some rfl) (fun K hK => ?_) AllReadyH.nil
        refine store_step (by rfl) (T := 34) (p := 6) (g := g6) (old := #[.float .f64 0, .float .f64 0]) (cs := #[.float .f64 s1, .float .f64 s2]) (t := 34) rfl rfl rfl rfl K6.out (by kernel_rfl) rfl (by simp [Value.oneCell']) ?_
        intro w158 hs_ hk_ hB_
        have K7 := Aside0.mk hs_
        have HS1 := (show _ ∧ _ ∧ _ ∧ _ from ⟨(hk_ _ N63.out.symm).trans HS.1, (hk_ _ N64.out.symm).trans HS.2.1, (hk_ _ N6R.out.symm).trans HS.2.2.1, hB_ _ _ HS.2.2.2 G6.out⟩)
        replace HS := HS1
        clear HS1 hs_ hk_ hB_ K6
        refine hK.out _ _ HS (fun HS => ?_)
        clear hK
        refine Arl.take (i := 10) (v := ?_) rfl (by kernel_rfl) (by kernel_rfl) (by kernel_rfl) (fun _ _ _ h => h) (by rfl) ?_ HS ?_
        rotate_left
        · (intro w0 hS0; go_simp; try (with_reducible rfl))
        simp only [Act.put, List.setIfInBounds_toArray, List.set_cons_zero, List.set_cons_succ]
        refine wpAnyH_done (by kernel_rfl) ?_ _
        go_wp2_with fail
        go_meet
        case rel => exact ⟨g6, s1, s2, rfl, rfl, K7, ⟨HS.2.2.1⟩, ⟨hs1⟩, ⟨hs2⟩, ⟨HS.2.2.2⟩⟩
    · skip
      refine box_step (by rfl) (N := 6) rfl (cs := #[.float .f64 0, .float .f64 0]) (t := 34) (by first | (go_simp; done) | (go_simp; rfl)) ?_
      intro g6 hg_ w159 hbox_ hb
      have K6 := Aside0.mk hbox_
      have G6 := Aside0.mk (show w.heap.size ≤ g6 by rw [hg_]; exact below_size HS.2.2.2)
      have N63 := Aside0.mk (show g6 ≠ g3 by rw [hg_]; exact Nat.ne_of_gt (blk_lt HS.1))
      have N64 := Aside0.mk (show g6 ≠ g4 by rw [hg_]; exact Nat.ne_of_gt (blk_lt HS.2.1))
      have N6R := Aside0.mk (show g6 ≠ gR by rw [hg_]; exact Nat.ne_of_gt (blk_lt HS.2.2.1))
      have HS1 := STEP _ _ HS hb
      replace HS := HS1
      clear HS1 hb hg_ hbox_
      refine hK.out _ _ HS (fun HS => ?_)
      clear hK
      refine wpAnyH_ready (rs := [1]) (by kernel_rfl) (by simp) ?_
      refine AllReadyH.cons (o := _) (Arl.nth_some rfl) (fun K hK => ?_) AllReadyH.nil
      go_simp
      go_at_call 24
      refine (widenW.calls x1 x2 a1 a2 hx1 hx2 ha1 ha2 _).mono ?_
      rintro e w160 ⟨u1, u2, rfl, hu1, hu2, hb⟩
      (try refine ⟨_, rfl, ?_⟩)
      have HS1 := STEP _ _ HS hb
      have n6 := Aside0.mk (blk_below K6.out hb)
      have nG := Aside0.mk (Nat.le_refl 0)
      clear K6 nG
      have K6 := n6
      clear n6
      replace HS := HS1
      clear HS1 hb
      refine hK.out _ _ HS (fun HS => ?_)
      clear hK
      refine wpAnyH_ready (rs := [3]) (by kernel_rfl) (by simp) ?_
      refine AllReadyH.cons (o := _) (Arl.nth_some rfl) (fun K hK => ?_) AllReadyH.nil
      go_simp
      go_at_call 24
      refine (widenW.calls y1 y2 b1 b2 hy1 hy2 hb1 hb2 _).mono ?_
      rintro e w161 ⟨v1, v2, rfl, hv1, hv2, hb⟩
      (try refine ⟨_, rfl, ?_⟩)
      have HS1 := STEP _ _ HS hb
      have n6 := Aside0.mk (blk_below K6.out hb)
      have nG := Aside0.mk (Nat.le_refl 0)
      clear K6 nG
      have K6 := n6
      clear n6
      replace HS := HS1
      clear HS1 hb
      refine hK.out _ _ HS (fun HS => ?_)
      clear hK
      refine wpAnyH_ready (rs := [4]) (by kernel_rfl) (by simp) ?_
      refine AllReadyH.cons (o := _) (Arl.nth_some rfl) (fun K hK => ?_) AllReadyH.nil
      go_simp
      go_at_call 33
      refine (HQ u1 u2 v1 v2 hu1 hu2 hv1 hv2 _).mono ?_
      rintro e w162 ⟨s1, s2, rfl, hs1, hs2, hb⟩
      (try refine ⟨_, rfl, ?_⟩)
      have HS1 := STEP _ _ HS hb
      have n6 := Aside0.mk (blk_below K6.out hb)
      have nG := Aside0.mk (Nat.le_refl 0)
      clear K6 nG
      have K6 := n6
      clear n6
      replace HS := HS1
      clear HS1 hb
      refine hK.out _ _ HS (fun HS => ?_)
      clear hK
      refine Arl.take (i := 5) (v := ?_) rfl (by kernel_rfl) (by kernel_rfl) (by kernel_rfl) (fun _ _ _ h => h) (by rfl) ?_ HS ?_
      rotate_left
      · (intro w0 hS0; go_simp; try (with_reducible rfl))
      simp only [Act.put, List.setIfInBounds_toArray, List.set_cons_zero, List.set_cons_succ]
      refine Arl.take (i := 6) (v := ?_) rfl (by kernel_rfl) (by kernel_rfl) (by kernel_rfl) (fun _ _ _ h => h) (by rfl) ?_ HS ?_
      rotate_left
      · (intro w0 hS0; go_simp; try (with_reducible rfl))
      simp only [Act.put, List.setIfInBounds_toArray, List.set_cons_zero, List.set_cons_succ]
      refine Arl.take (i := 7) (v := ?_) rfl (by kernel_rfl) (by kernel_rfl) (by kernel_rfl) (fun _ _ _ h => h) (by rfl) ?_ HS ?_
      rotate_left
      · (intro w0 hS0; go_simp; try (with_reducible rfl))
      simp only [Act.put, List.setIfInBounds_toArray, List.set_cons_zero, List.set_cons_succ]
      refine wpAnyH_ready (rs := [9]) (by kernel_rfl) (by simp) ?_
      refine AllReadyH.cons (o := _) (Arl.nth_some rfl) (fun K hK => ?_) AllReadyH.nil
      refine store_step (by rfl) (T := 34) (p := 6) (g := g6) (old := #[.float .f64 0, .float .f64 0]) (cs := #[.float .f64 s1, .float .f64 s2]) (t := 34) rfl rfl rfl rfl K6.out (by kernel_rfl) rfl (by simp [Value.oneCell']) ?_
      intro w163 hs_ hk_ hB_
      have K7 := Aside0.mk hs_
      have HS1 := (show _ ∧ _ ∧ _ ∧ _ from ⟨(hk_ _ N63.out.symm).trans HS.1, (hk_ _ N64.out.symm).trans HS.2.1, (hk_ _ N6R.out.symm).trans HS.2.2.1, hB_ _ _ HS.2.2.2 G6.out⟩)
      replace HS := HS1
      clear HS1 hs_ hk_ hB_ K6
      refine hK.out _ _ HS (fun HS => ?_)
      clear hK
      refine Arl.take (i := 10) (v := ?_) rfl (by kernel_rfl) (by kernel_rfl) (by kernel_rfl) (fun _ _ _ h => h) (by rfl) ?_ HS ?_
      rotate_left
      · (intro w0 hS0; go_simp; try (with_reducible rfl))
      simp only [Act.put, List.setIfInBounds_toArray, List.set_cons_zero, List.set_cons_succ]
      refine wpAnyH_done (by kernel_rfl) ?_ _
      go_wp2_with fail
      go_meet
      case rel => exact ⟨g6, s1, s2, rfl, rfl, K7, ⟨HS.2.2.1⟩, ⟨hs1⟩, ⟨hs2⟩, ⟨HS.2.2.2⟩⟩
  case rest =>
    obtain ⟨g, s1, s2, rfl, rfl, K6, T4, W1, W2, TB⟩ := hcut
    clear HB S_g3 S_g4 S_gR
    go_wp2_with (first | ((with_reducible refine gate_dst (N := 16) rfl ?_); refine Arr.load_all rfl rfl rfl rfl K6.out hu34 rfl (by kernel_rfl) ?_) | (go_at_call 20; (with_reducible refine (narrowW.calls s1 s2 q1 q2 W1.out W2.out k1 k2 _).mono ?_); rintro e w9 ⟨t1, t2, rfl, ht1, ht2, hb⟩; (try refine ⟨_, rfl, ?_⟩); have n4 := Aside0.mk (blk_below T4.out hb); have nB := Aside0.mk (below_step TB.out hb); clear T4 TB hb; have T4 := n4; have TB := nB; clear n4 nB; have e0 := (blk_cell T4.out 0).trans (show (#[.float .f32 0, .float .f32 0] : Array Value)[0]? = _ from rfl); have e1 := (blk_cell T4.out 1).trans (show (#[.float .f32 0, .float .f32 0] : Array Value)[1]? = _ from rfl); have f0 := blk_frozen T4.out 0; have f1 := blk_frozen T4.out 1))
    refine bodyPost_ret (results_list (rs := [.cell 4 26, .tmp 5]) rfl (by simp) (.cell gR 26 #[.float .f32 t1, .float .f32 t2] (0, 0) _ rfl (blk2 T4.out) hu26 rfl (by kernel_rfl) (.tmp .nil))) rfl ?_
    exact ⟨_, _, rfl, ht1, ht2, below_set (below_set TB.out G_gR.out) G_gR.out⟩
def laws_FnQuotients.f (l0 : List Int) : Option Bool := (laws_big.f l0).bind fun b => if b = true then some true else ((laws_at.f l0 0).bind fun x => (laws_at.f l0 1).bind fun y => (laws_at.f l0 2).bind fun z => if 0 ≤ x ∧ x ≤ 255 ∧ 0 ≤ y ∧ y ≤ 255 ∧ 0 ≤ z then some true else none)
set_option maxHeartbeats 80000000 in
set_option maxRecDepth 100000 in
theorem laws_FnQuotients.calls (A0 : Option Addr) (c0 : Nat) (l0 : List Int) (r : Bool) (w : World) (hr0 : Kd.C (Kd.int .u8) w A0 l0.length l0) (hc0 : l0.length ≤ c0) (h : laws_FnQuotients.f l0 = some r) :
    Calls Try.prog 10 #[.slice A0 l0.length c0] w fun e w' => e = .returned (.bool r) ∧ Below w.heap.size w w' := by
  have hu22 := Try.underlying22
  have hu24 := Try.underlying24
  have hu26 := Try.underlying26
  have hu30 := Try.underlying30
  have hu34 := Try.underlying34
  have HB := Aside0.mk (Below.refl w.heap.size w)
  have HR := Aside0.mk hr0
  have HC := Aside0.mk hc0
  clear hr0 hc0
  rw [laws_FnQuotients.f] at h
  obtain ⟨t, At, H⟩ := Option.bind_eq_some_iff.mp h
  have HQ := Aside0.mk (show ∀ W : World, Kd.C (Kd.int .u8) W A0 l0.length l0 → Calls Try.prog 30 #[.slice A0 l0.length c0] W (fun e w' => e = .returned (.bool t) ∧ Below W.heap.size W w') from fun W hr => (laws_big.calls A0 c0 l0 t W hr HC.out At).mono (fun e w' hq => by obtain ⟨h1, nd, rfl⟩ := hq; exact ⟨h1, pw_below_drewN (Below.refl _ _) nd⟩))
  clear h At
  cases t with
  | true =>
    rw [if_pos rfl] at H
    obtain rfl := Option.some.inj H
    clear H
    go_enter Try.func10, Try.ntmps10
    go_wp2_with (first | (go_at_call 30; (with_reducible refine (HQ.out _ (Kd.C_below HR.out HB.out)).mono ?_); rintro e w1 ⟨rfl, hb_⟩; have n_HB := Aside0.mk (below_step HB.out hb_); clear HB; have HB := n_HB; clear n_HB ; clear hb_))
    go_ret
    exact ⟨rfl, HB.out⟩
  | false =>
  rw [if_neg (by decide)] at H
  obtain ⟨x, Ax, H⟩ := Option.bind_eq_some_iff.mp H
  obtain ⟨y, Ay, H⟩ := Option.bind_eq_some_iff.mp H
  obtain ⟨z, Az, H⟩ := Option.bind_eq_some_iff.mp H
  by_cases c : 0 ≤ x ∧ x ≤ 255 ∧ 0 ≤ y ∧ y ≤ 255 ∧ 0 ≤ z
  case neg => rw [if_neg c] at H; cases H
  rw [if_pos c] at H
  obtain rfl := Option.some.inj H
  clear H
  have HX := Aside0.mk (show ∀ W : World, Kd.C (Kd.int .u8) W A0 l0.length l0 → Calls Try.prog 31 #[.slice A0 l0.length c0, .int .i64 0] W (fun e w' => e = .returned (.int .i64 x) ∧ Below W.heap.size W w') from fun W hr => (laws_at.calls A0 c0 l0 0 x W hr HC.out Ax).mono (fun e w' hq => by obtain ⟨h1, nd, rfl⟩ := hq; exact ⟨h1, pw_below_drewN (Below.refl _ _) nd⟩))
  have HY := Aside0.mk (show ∀ W : World, Kd.C (Kd.int .u8) W A0 l0.length l0 → Calls Try.prog 31 #[.slice A0 l0.length c0, .int .i64 1] W (fun e w' => e = .returned (.int .i64 y) ∧ Below W.heap.size W w') from fun W hr => (laws_at.calls A0 c0 l0 1 y W hr HC.out Ay).mono (fun e w' hq => by obtain ⟨h1, nd, rfl⟩ := hq; exact ⟨h1, pw_below_drewN (Below.refl _ _) nd⟩))
  have HZ := Aside0.mk (fun (W : World) (hr : Kd.C (Kd.int .u8) W A0 l0.length l0) => laws_at.calls A0 c0 l0 2 z W hr HC.out Az)
  clear Ax Ay Az
  have c' := Aside0.mk c
  clear c
  go_enter Try.func10, Try.ntmps10
  go_upto_region 3 with (first | (go_at_call 30; (with_reducible refine (HQ.out _ (Kd.C_below HR.out HB.out)).mono ?_); rintro e w1 ⟨rfl, hb_⟩; have n_HB := Aside0.mk (below_step HB.out hb_); clear HB; have HB := n_HB; clear n_HB ; clear hb_))
  go_cut [3] (fun v3 wd => ∃ g3 x1 x2 : Nat, v3 = .pointer (some ⟨g3, 0, none⟩) ∧ Aside0 (wd.heap[g3]? = some (.cells #[.float .f32 x1, .float .f32 x2] 26 (0, 0))) ∧ Aside0 (W .f32 x1 (x - 128)) ∧ Aside0 (W .f32 x2 (y - 100)) ∧ Aside0 (w.heap.size ≤ g3) ∧ Aside0 (Below w.heap.size w wd))
  case first =>
    go_wp2_with (first | ((with_reducible refine gate_dst (N := 3) rfl ?_); refine box_event ?hg (N := 3) ?hd (cs := #[.float .f32 0, .float .f32 0]) (t := 26) ?hr ?_; (case hd => rfl); (case hg => rfl); (case hr => first | (go_simp; done) | (go_simp; rfl)); intro g3 hg_ wg3 hbox_ hb_; have G_g3 := Aside0.mk (show w.heap.size ≤ g3 by rw [hg_]; exact below_size (HB.out)); have K_g3 := Aside0.mk hbox_; have e0 := (blk_cell hbox_ 0).trans (show (#[.float .f32 0, .float .f32 0] : Array Value)[0]? = _ from rfl); have e1 := (blk_cell hbox_ 1).trans (show (#[.float .f32 0, .float .f32 0] : Array Value)[1]? = _ from rfl); have f0 := blk_frozen hbox_ 0; have f1 := blk_frozen hbox_ 1; have n_HB := Aside0.mk (below_step (HB.out) hb_); clear HB; have HB := n_HB; clear n_HB ; clear hg_ hbox_ hb_) | (go_at_call 31; (with_reducible refine (HX.out _ (Kd.C_below HR.out (HB.out))).mono ?_); rintro e w2 ⟨rfl, hb_⟩; (try refine ⟨_, rfl, ?_⟩); have n_HB := Aside0.mk (below_step HB.out hb_); clear HB; have HB := n_HB; clear n_HB ; clear hb_) | (go_at_call 31; (with_reducible refine (HY.out _ (Kd.C_below HR.out (HB.out))).mono ?_); rintro e w3 ⟨rfl, hb_⟩; (try refine ⟨_, rfl, ?_⟩); have n_HB := Aside0.mk (below_step HB.out hb_); clear HB; have HB := n_HB; clear n_HB ; clear hb_))
    go_meet
    case rel => exact ⟨_, _, _, rfl, ⟨blk2 K_g3.out⟩, ⟨wcast (W.int .f32 (wrap64 (x - 128))) (by have := c'.out; unfold wrap64; omega)⟩, ⟨wcast (W.int .f32 (wrap64 (y - 100))) (by have := c'.out; unfold wrap64; omega)⟩, G_g3, ⟨below_set (below_set HB.out G_g3.out) G_g3.out⟩⟩
  case rest =>
  obtain ⟨g3, x1, x2, rfl, S_g3, X1, X2, G_g3, HB1⟩ := hcut
  clear HB HQ HX HY
  have HB := HB1
  clear HB1
  go_upto_region 4 with (fail)
  go_cut [4] (fun v4 wd => ∃ (g4 y1 y2 : Nat) (b1 b2 : Int), v4 = .pointer (some ⟨g4, 0, none⟩) ∧ Aside0 (wd.heap[g3]? = some (.cells #[.float .f32 x1, .float .f32 x2] 26 (0, 0))) ∧ Aside0 (wd.heap[g4]? = some (.cells #[.float .f32 y1, .float .f32 y2] 26 (0, 0))) ∧ Aside0 (W .f32 y1 b1) ∧ Aside0 (W .f32 y2 b2) ∧ Aside0 (good b1 b2) ∧ Aside0 (w.heap.size ≤ g4) ∧ Aside0 (g3 ≠ g4) ∧ Aside0 (Below w.heap.size w wd))
  case first =>
    have hm : Int.tmod z 6 = 0 ∨ Int.tmod z 6 = 1 ∨ Int.tmod z 6 = 2 ∨ Int.tmod z 6 = 3 ∨ Int.tmod z 6 = 4 ∨ Int.tmod z 6 = 5 := by
      rw [Int.tmod_eq_emod_of_nonneg c'.out.2.2.2.2]; omega
    obtain hj | hj | hj | hj | hj | hj := hm
    · go_wp2_with (first | (go_at_call 31; (with_reducible refine (HZ.out _ (Kd.C_below HR.out (by repeat (first | (with_reducible first | exact HB.out | apply below_alloc | apply pw_below_drewN | apply below_drew1))))).mono ?_); rintro e w5 ⟨rfl, ⟨nd, rfl⟩⟩; (try refine ⟨_, rfl, ?_⟩)))
      go_meet
      case rel => exact ⟨_, _, _, 1, 0, rfl, ⟨blk_alloc (blk_drewN (blk_alloc S_g3.out _) _) _⟩, ⟨alloc_at2 (show ((wc.alloc _).drewN nd).heap.size = wc.heap.size + 1 from alloc_size2 _ _) _⟩, ⟨wone⟩, ⟨W.zero _⟩, ⟨Or.inl ⟨rfl, rfl⟩⟩, ⟨by have := below_size HB.out; omega⟩, ⟨by have := blk_lt S_g3.out; omega⟩, ⟨below_alloc (pw_below_drewN (below_alloc HB.out _) _) _⟩⟩
    · go_wp2_with (first | (go_at_call 31; (with_reducible refine (HZ.out _ (Kd.C_below HR.out (by repeat (first | (with_reducible first | exact HB.out | apply below_alloc | apply pw_below_drewN | apply below_drew1))))).mono ?_); rintro e w5 ⟨rfl, ⟨nd, rfl⟩⟩; (try refine ⟨_, rfl, ?_⟩)))
      go_meet
      case rel => exact ⟨_, _, _, -1, 0, rfl, ⟨blk_alloc (blk_drewN (blk_alloc S_g3.out _) _) _⟩, ⟨alloc_at2 (show ((wc.alloc _).drewN nd).heap.size = wc.heap.size + 1 from alloc_size2 _ _) _⟩, ⟨wneg⟩, ⟨W.zero _⟩, ⟨Or.inr (Or.inl ⟨rfl, rfl⟩)⟩, ⟨by have := below_size HB.out; omega⟩, ⟨by have := blk_lt S_g3.out; omega⟩, ⟨below_alloc (pw_below_drewN (below_alloc HB.out _) _) _⟩⟩
    · go_wp2_with (first | (go_at_call 31; (with_reducible refine (HZ.out _ (Kd.C_below HR.out (by repeat (first | (with_reducible first | exact HB.out | apply below_alloc | apply pw_below_drewN | apply below_drew1))))).mono ?_); rintro e w5 ⟨rfl, ⟨nd, rfl⟩⟩; (try refine ⟨_, rfl, ?_⟩)))
      go_meet
      case rel => exact ⟨_, _, _, 0, 1, rfl, ⟨blk_alloc (blk_drewN (blk_alloc S_g3.out _) _) _⟩, ⟨alloc_at2 (show ((wc.alloc _).drewN nd).heap.size = wc.heap.size + 1 from alloc_size2 _ _) _⟩, ⟨W.zero _⟩, ⟨wone⟩, ⟨Or.inr (Or.inr (Or.inl ⟨rfl, rfl⟩))⟩, ⟨by have := below_size HB.out; omega⟩, ⟨by have := blk_lt S_g3.out; omega⟩, ⟨below_alloc (pw_below_drewN (below_alloc HB.out _) _) _⟩⟩
    · go_wp2_with (first | (go_at_call 31; (with_reducible refine (HZ.out _ (Kd.C_below HR.out (by repeat (first | (with_reducible first | exact HB.out | apply below_alloc | apply pw_below_drewN | apply below_drew1))))).mono ?_); rintro e w5 ⟨rfl, ⟨nd, rfl⟩⟩; (try refine ⟨_, rfl, ?_⟩)))
      go_meet
      case rel => exact ⟨_, _, _, 1, 1, rfl, ⟨blk_alloc (blk_drewN (blk_alloc S_g3.out _) _) _⟩, ⟨alloc_at2 (show ((wc.alloc _).drewN nd).heap.size = wc.heap.size + 1 from alloc_size2 _ _) _⟩, ⟨wone⟩, ⟨wone⟩, ⟨Or.inr (Or.inr (Or.inr (Or.inl ⟨rfl, rfl⟩)))⟩, ⟨by have := below_size HB.out; omega⟩, ⟨by have := blk_lt S_g3.out; omega⟩, ⟨below_alloc (pw_below_drewN (below_alloc HB.out _) _) _⟩⟩
    · go_wp2_with (first | (go_at_call 31; (with_reducible refine (HZ.out _ (Kd.C_below HR.out (by repeat (first | (with_reducible first | exact HB.out | apply below_alloc | apply pw_below_drewN | apply below_drew1))))).mono ?_); rintro e w5 ⟨rfl, ⟨nd, rfl⟩⟩; (try refine ⟨_, rfl, ?_⟩)))
      go_meet
      case rel => exact ⟨_, _, _, -1, 1, rfl, ⟨blk_alloc (blk_drewN (blk_alloc S_g3.out _) _) _⟩, ⟨alloc_at2 (show ((wc.alloc _).drewN nd).heap.size = wc.heap.size + 1 from alloc_size2 _ _) _⟩, ⟨wneg⟩, ⟨wone⟩, ⟨Or.inr (Or.inr (Or.inr (Or.inr (Or.inl ⟨rfl, rfl⟩))))⟩, ⟨by have := below_size HB.out; omega⟩, ⟨by have := blk_lt S_g3.out; omega⟩, ⟨below_alloc (pw_below_drewN (below_alloc HB.out _) _) _⟩⟩
    · go_wp2_with (first | (go_at_call 31; (with_reducible refine (HZ.out _ (Kd.C_below HR.out (by repeat (first | (with_reducible first | exact HB.out | apply below_alloc | apply pw_below_drewN | apply below_drew1))))).mono ?_); rintro e w5 ⟨rfl, ⟨nd, rfl⟩⟩; (try refine ⟨_, rfl, ?_⟩)))
      go_meet
      case rel => exact ⟨_, _, _, 2, 0, rfl, ⟨blk_alloc (blk_drewN (blk_alloc S_g3.out _) _) _⟩, ⟨alloc_at2 (show ((wc.alloc _).drewN nd).heap.size = wc.heap.size + 1 from alloc_size2 _ _) _⟩, ⟨wtwo⟩, ⟨W.zero _⟩, ⟨Or.inr (Or.inr (Or.inr (Or.inr (Or.inr (⟨rfl, rfl⟩)))))⟩, ⟨by have := below_size HB.out; omega⟩, ⟨by have := blk_lt S_g3.out; omega⟩, ⟨below_alloc (pw_below_drewN (below_alloc HB.out _) _) _⟩⟩

  case rest =>
  obtain ⟨g4, y1, y2, b1, b2, rfl, S_g3', S_g4, Y1, Y2, GD, G_g4, N34, HBd⟩ := hcut
  clear S_g3 HB HZ
  have hx1 : small (x - 128) := by have := c'.out; constructor <;> omega
  have hx2 : small (y - 100) := by have := c'.out; constructor <;> omega
  have SM := Aside0.mk (And.intro hx1 hx2)
  clear hx1 hx2
  go_upto_region 5 with (fail)
  go_cut [5, 6] (fun v5 v6 wd => ∃ g5 t1 t2 : Nat, v5 = .pointer (some ⟨g5, 0, none⟩) ∧ v6 = .bool true ∧ Aside0 (wd.heap[g3]? = some (.cells #[.float .f32 x1, .float .f32 x2] 26 (0, 0))) ∧ Aside0 (wd.heap[g4]? = some (.cells #[.float .f32 y1, .float .f32 y2] 26 (0, 0))) ∧ Aside0 (wd.heap[g5]? = some (.cells #[.float .f32 t1, .float .f32 t2] 26 (0, 0))) ∧ Aside0 (W .f32 t1 (x - 128)) ∧ Aside0 (W .f32 t2 (y - 100)) ∧ Aside0 (w.heap.size ≤ g5) ∧ Aside0 (g5 ≠ g3) ∧ Aside0 (g5 ≠ g4) ∧ Aside0 (Below w.heap.size w wd))
  case first =>
    have STEP : ∀ W W' : World, (W.heap[g3]? = some (.cells #[.float .f32 x1, .float .f32 x2] 26 (0, 0)) ∧ W.heap[g4]? = some (.cells #[.float .f32 y1, .float .f32 y2] 26 (0, 0)) ∧ Below w.heap.size w W) → Below W.heap.size W W' → (W'.heap[g3]? = some (.cells #[.float .f32 x1, .float .f32 x2] 26 (0, 0)) ∧ W'.heap[g4]? = some (.cells #[.float .f32 y1, .float .f32 y2] 26 (0, 0)) ∧ Below w.heap.size w W') := fun W W' h hb => ⟨blk_below h.1 hb, blk_below h.2.1 hb, below_step h.2.2 hb⟩
    refine wp_region_held_drew (S := fun w' => (w'.heap[g3]? = some (.cells #[.float .f32 x1, .float .f32 x2] 26 (0, 0)) ∧ w'.heap[g4]? = some (.cells #[.float .f32 y1, .float .f32 y2] 26 (0, 0)) ∧ Below w.heap.size w w')) rfl (STEP _ _ ⟨S_g3'.out, S_g4.out, HBd.out⟩ (below_drew1 (Below.refl _ _))) (fun HS => ?_)
    refine Arl.take (i := 0) (v := .agg #[.float .f32 x1, .float .f32 x2]) rfl (by kernel_rfl) (by kernel_rfl) (by kernel_rfl) (fun _ _ _ h => h) (by rfl) (fun W hW => load_run rfl rfl hW.1 hu26 rfl (by kernel_rfl)) HS ?_
    simp only [Act.put, List.setIfInBounds_toArray, List.set_cons_zero, List.set_cons_succ]
    refine Arl.take (i := 1) (v := .agg #[.float .f32 y1, .float .f32 y2]) rfl (by kernel_rfl) (by kernel_rfl) (by kernel_rfl) (fun _ _ _ h => h) (by rfl) (fun W hW => load_run rfl rfl hW.2.1 hu26 rfl (by kernel_rfl)) HS ?_
    simp only [Act.put, List.setIfInBounds_toArray, List.set_cons_zero, List.set_cons_succ]
    refine Arl.take (i := 3) (v := .agg #[.float .f32 y1, .float .f32 y2]) rfl (by kernel_rfl) (by kernel_rfl) (by kernel_rfl) (fun _ _ _ h => h) (by rfl) (fun W hW => load_run rfl rfl hW.2.1 hu26 rfl (by kernel_rfl)) HS ?_
    simp only [Act.put, List.setIfInBounds_toArray, List.set_cons_zero, List.set_cons_succ]
    refine wpAnyH_ready (rs := [2, 8]) (by kernel_rfl) (by simp) ?_
    refine AllReadyH.cons (o := _) (Arl.nth_some rfl) (fun K hK => ?_) (AllReadyH.cons (o := _) (Arl.nth_some rfl) (fun K hK => ?_) AllReadyH.nil)
    · skip
      go_simp
      go_at_call 29
      refine (mulS.calls x1 x2 _ _ X1.out X2.out SM.out.1.B SM.out.2.B y1 y2 _ _ Y1.out Y2.out GD.out.B.1 GD.out.B.2 (prods (SM.out.1) (SM.out.2) GD.out).1 (prods (SM.out.1) (SM.out.2) GD.out).2.1 (prods (SM.out.1) (SM.out.2) GD.out).2.2.1 (prods (SM.out.1) (SM.out.2) GD.out).2.2.2.1 (prods (SM.out.1) (SM.out.2) GD.out).2.2.2.2.1 (prods (SM.out.1) (SM.out.2) GD.out).2.2.2.2.2 _).mono ?_
      rintro e w101 ⟨m1, m2, rfl, hm1, hm2, hb⟩
      (try refine ⟨_, rfl, ?_⟩)
      have HS1 := STEP _ _ HS hb
      replace HS := HS1
      clear HS1 hb
      refine hK.out _ _ HS (fun HS => ?_)
      clear hK
      refine wpAnyH_ready (rs := [4, 8]) (by kernel_rfl) (by simp) ?_
      refine AllReadyH.cons (o := _) (Arl.nth_some rfl) (fun K hK => ?_) (AllReadyH.cons (o := _) (Arl.nth_some rfl) (fun K hK => ?_) AllReadyH.nil)
      · skip
        go_simp
        go_at_call 32
        refine (quotS.calls m1 m2 _ _ hm1 hm2 (prods (SM.out.1) (SM.out.2) GD.out).2.2.2.2.1 (prods (SM.out.1) (SM.out.2) GD.out).2.2.2.2.2 y1 y2 _ _ Y1.out Y2.out GD.out.B.1 GD.out.B.2 (x - 128) (y - 100) true SM.out.1.B SM.out.2.B (fun u1 u2 v1 v2 h1 h2 h3 h4 w => quotAll SM.out.1 SM.out.2 GD.out u1 u2 v1 v2 h1 h2 h3 h4 w) _).mono ?_
        rintro e w102 ⟨t1, t2, rfl, ht1, ht2, hb⟩
        (try refine ⟨_, rfl, ?_⟩)
        have HS1 := STEP _ _ HS hb
        replace HS := HS1
        clear HS1 hb
        refine hK.out _ _ HS (fun HS => ?_)
        clear hK
        refine Arl.take (i := 5) (v := ?_) rfl (by kernel_rfl) (by kernel_rfl) (by kernel_rfl) (fun _ _ _ h => h) (by rfl) ?_ HS ?_
        rotate_left
        · (intro w0 hS0; go_simp; try (with_reducible rfl))
        simp only [Act.put, List.setIfInBounds_toArray, List.set_cons_zero, List.set_cons_succ]
        refine Arl.take (i := 6) (v := ?_) rfl (by kernel_rfl) (by kernel_rfl) (by kernel_rfl) (fun _ _ _ h => h) (by rfl) ?_ HS ?_
        rotate_left
        · (intro w0 hS0; go_simp; try (with_reducible rfl))
        simp only [Act.put, List.setIfInBounds_toArray, List.set_cons_zero, List.set_cons_succ]
        refine Arl.take (i := 7) (v := ?_) rfl (by kernel_rfl) (by kernel_rfl) (by kernel_rfl) (fun _ _ _ h => h) (by rfl) ?_ HS ?_
        rotate_left
        · (intro w0 hS0; go_simp; try (with_reducible rfl))
        simp only [Act.put, List.setIfInBounds_toArray, List.set_cons_zero, List.set_cons_succ]
        refine wpAnyH_ready (rs := [8]) (by kernel_rfl) (by simp) ?_
        refine AllReadyH.cons (o := _) (Arl.nth_some rfl) (fun K hK => ?_) AllReadyH.nil
        refine box_step (by rfl) (N := 5) rfl (cs := #[.float .f32 0, .float .f32 0]) (t := 26) (by first | (go_simp; done) | (go_simp; rfl)) ?_
        intro g6 hg_ w103 hbox_ hb
        have K6 := Aside0.mk hbox_
        have G6 := Aside0.mk (show w.heap.size ≤ g6 by rw [hg_]; exact below_size HS.2.2)
        have N63 := Aside0.mk (show g6 ≠ g3 by rw [hg_]; exact Nat.ne_of_gt (blk_lt HS.1))
        have N64 := Aside0.mk (show g6 ≠ g4 by rw [hg_]; exact Nat.ne_of_gt (blk_lt HS.2.1))
        have HS1 := STEP _ _ HS hb
        replace HS := HS1
        clear HS1 hb hg_ hbox_
        refine hK.out _ _ HS (fun HS => ?_)
        clear hK
        refine wpAnyH_ready (rs := [9]) (by kernel_rfl) (by simp) ?_
        refine AllReadyH.cons (o := _) (Arl.nth_some rfl) (fun K hK => ?_) AllReadyH.nil
        refine store_step (by rfl) (T := 26) (p := 5) (g := g6) (old := #[.float .f32 0, .float .f32 0]) (cs := #[.float .f32 t1, .float .f32 t2]) (t := 26) rfl rfl rfl rfl K6.out (by kernel_rfl) rfl (by simp [Value.oneCell']) ?_
        intro w104 hs_ hk_ hB_
        have K7 := Aside0.mk hs_
        have HS1 := (show _ ∧ _ ∧ _ from ⟨(hk_ _ N63.out.symm).trans HS.1, (hk_ _ N64.out.symm).trans HS.2.1, hB_ _ _ HS.2.2 G6.out⟩)
        replace HS := HS1
        clear HS1 hs_ hk_ hB_ K6
        refine hK.out _ _ HS (fun HS => ?_)
        clear hK
        refine Arl.take (i := 10) (v := ?_) rfl (by kernel_rfl) (by kernel_rfl) (by kernel_rfl) (fun _ _ _ h => h) (by rfl) ?_ HS ?_
        rotate_left
        · (intro w0 hS0; go_simp; try (with_reducible rfl))
        simp only [Act.put, List.setIfInBounds_toArray, List.set_cons_zero, List.set_cons_succ]
        refine wpAnyH_done (by kernel_rfl) ?_ _
        go_wp2_with fail
        go_meet
        case rel => exact ⟨g6, t1, t2, rfl, rfl, ⟨HS.1⟩, ⟨HS.2.1⟩, K7, ⟨ht1⟩, ⟨ht2⟩, G6, N63, N64, ⟨HS.2.2⟩⟩
      · skip
        refine box_step (by rfl) (N := 5) rfl (cs := #[.float .f32 0, .float .f32 0]) (t := 26) (by first | (go_simp; done) | (go_simp; rfl)) ?_
        intro g6 hg_ w105 hbox_ hb
        have K6 := Aside0.mk hbox_
        have G6 := Aside0.mk (show w.heap.size ≤ g6 by rw [hg_]; exact below_size HS.2.2)
        have N63 := Aside0.mk (show g6 ≠ g3 by rw [hg_]; exact Nat.ne_of_gt (blk_lt HS.1))
        have N64 := Aside0.mk (show g6 ≠ g4 by rw [hg_]; exact Nat.ne_of_gt (blk_lt HS.2.1))
        have HS1 := STEP _ _ HS hb
        replace HS := HS1
        clear HS1 hb hg_ hbox_
        refine hK.out _ _ HS (fun HS => ?_)
        clear hK
        refine wpAnyH_ready (rs := [4]) (by kernel_rfl) (by simp) ?_
        refine AllReadyH.cons (o := _) (Arl.nth_some rfl) (fun K hK => ?_) AllReadyH.nil
        go_simp
        go_at_call 32
        refine (quotS.calls m1 m2 _ _ hm1 hm2 (prods (SM.out.1) (SM.out.2) GD.out).2.2.2.2.1 (prods (SM.out.1) (SM.out.2) GD.out).2.2.2.2.2 y1 y2 _ _ Y1.out Y2.out GD.out.B.1 GD.out.B.2 (x - 128) (y - 100) true SM.out.1.B SM.out.2.B (fun u1 u2 v1 v2 h1 h2 h3 h4 w => quotAll SM.out.1 SM.out.2 GD.out u1 u2 v1 v2 h1 h2 h3 h4 w) _).mono ?_
        rintro e w106 ⟨t1, t2, rfl, ht1, ht2, hb⟩
        (try refine ⟨_, rfl, ?_⟩)
        have HS1 := STEP _ _ HS hb
        have n6 := Aside0.mk (blk_below K6.out hb)
        have nG := Aside0.mk (Nat.le_refl 0)
        clear K6 nG
        have K6 := n6
        clear n6
        replace HS := HS1
        clear HS1 hb
        refine hK.out _ _ HS (fun HS => ?_)
        clear hK
        refine Arl.take (i := 5) (v := ?_) rfl (by kernel_rfl) (by kernel_rfl) (by kernel_rfl) (fun _ _ _ h => h) (by rfl) ?_ HS ?_
        rotate_left
        · (intro w0 hS0; go_simp; try (with_reducible rfl))
        simp only [Act.put, List.setIfInBounds_toArray, List.set_cons_zero, List.set_cons_succ]
        refine Arl.take (i := 6) (v := ?_) rfl (by kernel_rfl) (by kernel_rfl) (by kernel_rfl) (fun _ _ _ h => h) (by rfl) ?_ HS ?_
        rotate_left
        · (intro w0 hS0; go_simp; try (with_reducible rfl))
        simp only [Act.put, List.setIfInBounds_toArray, List.set_cons_zero, List.set_cons_succ]
        refine Arl.take (i := 7) (v := ?_) rfl (by kernel_rfl) (by kernel_rfl) (by kernel_rfl) (fun _ _ _ h => h) (by rfl) ?_ HS ?_
        rotate_left
        · (intro w0 hS0; go_simp; try (with_reducible rfl))
        simp only [Act.put, List.setIfInBounds_toArray, List.set_cons_zero, List.set_cons_succ]
        refine wpAnyH_ready (rs := [9]) (by kernel_rfl) (by simp) ?_
        refine AllReadyH.cons (o := _) (Arl.nth_some rfl) (fun K hK => ?_) AllReadyH.nil
        refine store_step (by rfl) (T := 26) (p := 5) (g := g6) (old := #[.float .f32 0, .float .f32 0]) (cs := #[.float .f32 t1, .float .f32 t2]) (t := 26) rfl rfl rfl rfl K6.out (by kernel_rfl) rfl (by simp [Value.oneCell']) ?_
        intro w107 hs_ hk_ hB_
        have K7 := Aside0.mk hs_
        have HS1 := (show _ ∧ _ ∧ _ from ⟨(hk_ _ N63.out.symm).trans HS.1, (hk_ _ N64.out.symm).trans HS.2.1, hB_ _ _ HS.2.2 G6.out⟩)
        replace HS := HS1
        clear HS1 hs_ hk_ hB_ K6
        refine hK.out _ _ HS (fun HS => ?_)
        clear hK
        refine Arl.take (i := 10) (v := ?_) rfl (by kernel_rfl) (by kernel_rfl) (by kernel_rfl) (fun _ _ _ h => h) (by rfl) ?_ HS ?_
        rotate_left
        · (intro w0 hS0; go_simp; try (with_reducible rfl))
        simp only [Act.put, List.setIfInBounds_toArray, List.set_cons_zero, List.set_cons_succ]
        refine wpAnyH_done (by kernel_rfl) ?_ _
        go_wp2_with fail
        go_meet
        case rel => exact ⟨g6, t1, t2, rfl, rfl, ⟨HS.1⟩, ⟨HS.2.1⟩, K7, ⟨ht1⟩, ⟨ht2⟩, G6, N63, N64, ⟨HS.2.2⟩⟩
    · skip
      refine box_step (by rfl) (N := 5) rfl (cs := #[.float .f32 0, .float .f32 0]) (t := 26) (by first | (go_simp; done) | (go_simp; rfl)) ?_
      intro g6 hg_ w108 hbox_ hb
      have K6 := Aside0.mk hbox_
      have G6 := Aside0.mk (show w.heap.size ≤ g6 by rw [hg_]; exact below_size HS.2.2)
      have N63 := Aside0.mk (show g6 ≠ g3 by rw [hg_]; exact Nat.ne_of_gt (blk_lt HS.1))
      have N64 := Aside0.mk (show g6 ≠ g4 by rw [hg_]; exact Nat.ne_of_gt (blk_lt HS.2.1))
      have HS1 := STEP _ _ HS hb
      replace HS := HS1
      clear HS1 hb hg_ hbox_
      refine hK.out _ _ HS (fun HS => ?_)
      clear hK
      refine wpAnyH_ready (rs := [2]) (by kernel_rfl) (by simp) ?_
      refine AllReadyH.cons (o := _) (Arl.nth_some rfl) (fun K hK => ?_) AllReadyH.nil
      go_simp
      go_at_call 29
      refine (mulS.calls x1 x2 _ _ X1.out X2.out SM.out.1.B SM.out.2.B y1 y2 _ _ Y1.out Y2.out GD.out.B.1 GD.out.B.2 (prods (SM.out.1) (SM.out.2) GD.out).1 (prods (SM.out.1) (SM.out.2) GD.out).2.1 (prods (SM.out.1) (SM.out.2) GD.out).2.2.1 (prods (SM.out.1) (SM.out.2) GD.out).2.2.2.1 (prods (SM.out.1) (SM.out.2) GD.out).2.2.2.2.1 (prods (SM.out.1) (SM.out.2) GD.out).2.2.2.2.2 _).mono ?_
      rintro e w109 ⟨m1, m2, rfl, hm1, hm2, hb⟩
      (try refine ⟨_, rfl, ?_⟩)
      have HS1 := STEP _ _ HS hb
      have n6 := Aside0.mk (blk_below K6.out hb)
      have nG := Aside0.mk (Nat.le_refl 0)
      clear K6 nG
      have K6 := n6
      clear n6
      replace HS := HS1
      clear HS1 hb
      refine hK.out _ _ HS (fun HS => ?_)
      clear hK
      refine wpAnyH_ready (rs := [4]) (by kernel_rfl) (by simp) ?_
      refine AllReadyH.cons (o := _) (Arl.nth_some rfl) (fun K hK => ?_) AllReadyH.nil
      go_simp
      go_at_call 32
      refine (quotS.calls m1 m2 _ _ hm1 hm2 (prods (SM.out.1) (SM.out.2) GD.out).2.2.2.2.1 (prods (SM.out.1) (SM.out.2) GD.out).2.2.2.2.2 y1 y2 _ _ Y1.out Y2.out GD.out.B.1 GD.out.B.2 (x - 128) (y - 100) true SM.out.1.B SM.out.2.B (fun u1 u2 v1 v2 h1 h2 h3 h4 w => quotAll SM.out.1 SM.out.2 GD.out u1 u2 v1 v2 h1 h2 h3 h4 w) _).mono ?_
      rintro e w110 ⟨t1, t2, rfl, ht1, ht2, hb⟩
      (try refine ⟨_, rfl, ?_⟩)
      have HS1 := STEP _ _ HS hb
      have n6 := Aside0.mk (blk_below K6.out hb)
      have nG := Aside0.mk (Nat.le_refl 0)
      clear K6 nG
      have K6 := n6
      clear n6
      replace HS := HS1
      clear HS1 hb
      refine hK.out _ _ HS (fun HS => ?_)
      clear hK
      refine Arl.take (i := 5) (v := ?_) rfl (by kernel_rfl) (by kernel_rfl) (by kernel_rfl) (fun _ _ _ h => h) (by rfl) ?_ HS ?_
      rotate_left
      · (intro w0 hS0; go_simp; try (with_reducible rfl))
      simp only [Act.put, List.setIfInBounds_toArray, List.set_cons_zero, List.set_cons_succ]
      refine Arl.take (i := 6) (v := ?_) rfl (by kernel_rfl) (by kernel_rfl) (by kernel_rfl) (fun _ _ _ h => h) (by rfl) ?_ HS ?_
      rotate_left
      · (intro w0 hS0; go_simp; try (with_reducible rfl))
      simp only [Act.put, List.setIfInBounds_toArray, List.set_cons_zero, List.set_cons_succ]
      refine Arl.take (i := 7) (v := ?_) rfl (by kernel_rfl) (by kernel_rfl) (by kernel_rfl) (fun _ _ _ h => h) (by rfl) ?_ HS ?_
      rotate_left
      · (intro w0 hS0; go_simp; try (with_reducible rfl))
      simp only [Act.put, List.setIfInBounds_toArray, List.set_cons_zero, List.set_cons_succ]
      refine wpAnyH_ready (rs := [9]) (by kernel_rfl) (by simp) ?_
      refine AllReadyH.cons (o := _) (Arl.nth_some rfl) (fun K hK => ?_) AllReadyH.nil
      refine store_step (by rfl) (T := 26) (p := 5) (g := g6) (old := #[.float .f32 0, .float .f32 0]) (cs := #[.float .f32 t1, .float .f32 t2]) (t := 26) rfl rfl rfl rfl K6.out (by kernel_rfl) rfl (by simp [Value.oneCell']) ?_
      intro w111 hs_ hk_ hB_
      have K7 := Aside0.mk hs_
      have HS1 := (show _ ∧ _ ∧ _ from ⟨(hk_ _ N63.out.symm).trans HS.1, (hk_ _ N64.out.symm).trans HS.2.1, hB_ _ _ HS.2.2 G6.out⟩)
      replace HS := HS1
      clear HS1 hs_ hk_ hB_ K6
      refine hK.out _ _ HS (fun HS => ?_)
      clear hK
      refine Arl.take (i := 10) (v := ?_) rfl (by kernel_rfl) (by kernel_rfl) (by kernel_rfl) (fun _ _ _ h => h) (by rfl) ?_ HS ?_
      rotate_left
      · (intro w0 hS0; go_simp; try (with_reducible rfl))
      simp only [Act.put, List.setIfInBounds_toArray, List.set_cons_zero, List.set_cons_succ]
      refine wpAnyH_done (by kernel_rfl) ?_ _
      go_wp2_with fail
      go_meet
      case rel => exact ⟨g6, t1, t2, rfl, rfl, ⟨HS.1⟩, ⟨HS.2.1⟩, K7, ⟨ht1⟩, ⟨ht2⟩, G6, N63, N64, ⟨HS.2.2⟩⟩
  case rest =>
  obtain ⟨g5, t1, t2, rfl, rfl, T_g3, T_g4, T_g5, Q1, Q2, G_g5, N53, N54, HB5⟩ := hcut
  clear S_g3' S_g4 HBd
  go_upto_region 6 with (fail)
  go_cut [7, 8] (fun v7 v8 wd => ∃ g7 s1 s2 : Nat, v7 = .pointer (some ⟨g7, 0, none⟩) ∧ v8 = .bool true ∧ Aside0 (wd.heap[g3]? = some (.cells #[.float .f32 x1, .float .f32 x2] 26 (0, 0))) ∧ Aside0 (wd.heap[g5]? = some (.cells #[.float .f32 t1, .float .f32 t2] 26 (0, 0))) ∧ Aside0 (wd.heap[g7]? = some (.cells #[.float .f64 s1, .float .f64 s2] 34 (0, 0))) ∧ Aside0 (W .f64 s1 (x - 128)) ∧ Aside0 (W .f64 s2 (y - 100)) ∧ Aside0 (Below w.heap.size w wd))
  case first =>
    have STEP : ∀ W W' : World, (W.heap[g3]? = some (.cells #[.float .f32 x1, .float .f32 x2] 26 (0, 0)) ∧ W.heap[g4]? = some (.cells #[.float .f32 y1, .float .f32 y2] 26 (0, 0)) ∧ W.heap[g5]? = some (.cells #[.float .f32 t1, .float .f32 t2] 26 (0, 0)) ∧ Below w.heap.size w W) → Below W.heap.size W W' → (W'.heap[g3]? = some (.cells #[.float .f32 x1, .float .f32 x2] 26 (0, 0)) ∧ W'.heap[g4]? = some (.cells #[.float .f32 y1, .float .f32 y2] 26 (0, 0)) ∧ W'.heap[g5]? = some (.cells #[.float .f32 t1, .float .f32 t2] 26 (0, 0)) ∧ Below w.heap.size w W') := fun W W' h hb => ⟨blk_below h.1 hb, blk_below h.2.1 hb, blk_below h.2.2.1 hb, below_step h.2.2.2 hb⟩
    refine wp_region_held_drew (S := fun w' => (w'.heap[g3]? = some (.cells #[.float .f32 x1, .float .f32 x2] 26 (0, 0)) ∧ w'.heap[g4]? = some (.cells #[.float .f32 y1, .float .f32 y2] 26 (0, 0)) ∧ w'.heap[g5]? = some (.cells #[.float .f32 t1, .float .f32 t2] 26 (0, 0)) ∧ Below w.heap.size w w')) rfl (STEP _ _ ⟨T_g3.out, T_g4.out, T_g5.out, HB5.out⟩ (below_drew1 (Below.refl _ _))) (fun HS => ?_)
    refine Arl.take (i := 0) (v := .agg #[.float .f32 x1, .float .f32 x2]) rfl (by kernel_rfl) (by kernel_rfl) (by kernel_rfl) (fun _ _ _ h => h) (by rfl) (fun W hW => load_run rfl rfl hW.1 hu26 rfl (by kernel_rfl)) HS ?_
    simp only [Act.put, List.setIfInBounds_toArray, List.set_cons_zero, List.set_cons_succ]
    refine Arl.take (i := 2) (v := .agg #[.float .f32 y1, .float .f32 y2]) rfl (by kernel_rfl) (by kernel_rfl) (by kernel_rfl) (fun _ _ _ h => h) (by rfl) (fun W hW => load_run rfl rfl hW.2.1 hu26 rfl (by kernel_rfl)) HS ?_
    simp only [Act.put, List.setIfInBounds_toArray, List.set_cons_zero, List.set_cons_succ]
    refine Arl.take (i := 5) (v := .agg #[.float .f32 y1, .float .f32 y2]) rfl (by kernel_rfl) (by kernel_rfl) (by kernel_rfl) (fun _ _ _ h => h) (by rfl) (fun W hW => load_run rfl rfl hW.2.1 hu26 rfl (by kernel_rfl)) HS ?_
    simp only [Act.put, List.setIfInBounds_toArray, List.set_cons_zero, List.set_cons_succ]
    refine wpAnyH_ready (rs := [1, 11]) (by kernel_rfl) (by simp) ?_
    refine AllReadyH.cons (o := _) (Arl.nth_some rfl) (fun K hK => ?_) (AllReadyH.cons (o := _) (Arl.nth_some rfl) (fun K hK => ?_) AllReadyH.nil)
    · skip
      go_simp
      go_at_call 24
      refine (widenW.calls x1 x2 _ _ X1.out X2.out SM.out.1.B SM.out.2.B _).mono ?_
      rintro e w112 ⟨u1, u2, rfl, hu1, hu2, hb⟩
      (try refine ⟨_, rfl, ?_⟩)
      have HS1 := STEP _ _ HS hb
      replace HS := HS1
      clear HS1 hb
      refine hK.out _ _ HS (fun HS => ?_)
      clear hK
      refine wpAnyH_ready (rs := [3, 11]) (by kernel_rfl) (by simp) ?_
      refine AllReadyH.cons (o := _) (Arl.nth_some rfl) (fun K hK => ?_) (AllReadyH.cons (o := _) (Arl.nth_some rfl) (fun K hK => ?_) AllReadyH.nil)
      · skip
        go_simp
        go_at_call 24
        refine (widenW.calls y1 y2 _ _ Y1.out Y2.out GD.out.B.1 GD.out.B.2 _).mono ?_
        rintro e w113 ⟨v1, v2, rfl, hv1, hv2, hb⟩
        (try refine ⟨_, rfl, ?_⟩)
        have HS1 := STEP _ _ HS hb
        replace HS := HS1
        clear HS1 hb
        refine hK.out _ _ HS (fun HS => ?_)
        clear hK
        refine wpAnyH_ready (rs := [4, 11]) (by kernel_rfl) (by simp) ?_
        refine AllReadyH.cons (o := _) (Arl.nth_some rfl) (fun K hK => ?_) (AllReadyH.cons (o := _) (Arl.nth_some rfl) (fun K hK => ?_) AllReadyH.nil)
        · skip
          go_simp
          go_at_call 27
          refine (mulW.calls u1 u2 _ _ hu1 hu2 SM.out.1.B SM.out.2.B v1 v2 _ _ hv1 hv2 GD.out.B.1 GD.out.B.2 (prods (SM.out.1) (SM.out.2) GD.out).1 (prods (SM.out.1) (SM.out.2) GD.out).2.1 (prods (SM.out.1) (SM.out.2) GD.out).2.2.1 (prods (SM.out.1) (SM.out.2) GD.out).2.2.2.1 (prods (SM.out.1) (SM.out.2) GD.out).2.2.2.2.1 (prods (SM.out.1) (SM.out.2) GD.out).2.2.2.2.2 _).mono ?_
          rintro e w114 ⟨m1, m2, rfl, hm1, hm2, hb⟩
          (try refine ⟨_, rfl, ?_⟩)
          have HS1 := STEP _ _ HS hb
          replace HS := HS1
          clear HS1 hb
          refine hK.out _ _ HS (fun HS => ?_)
          clear hK
          refine wpAnyH_ready (rs := [6, 11]) (by kernel_rfl) (by simp) ?_
          refine AllReadyH.cons (o := _) (Arl.nth_some rfl) (fun K hK => ?_) (AllReadyH.cons (o := _) (Arl.nth_some rfl) (fun K hK => ?_) AllReadyH.nil)
          · skip
            go_simp
            go_at_call 24
            refine (widenW.calls y1 y2 _ _ Y1.out Y2.out GD.out.B.1 GD.out.B.2 _).mono ?_
            rintro e w115 ⟨v3, v4, rfl, hv3, hv4, hb⟩
            (try refine ⟨_, rfl, ?_⟩)
            have HS1 := STEP _ _ HS hb
            replace HS := HS1
            clear HS1 hb
            refine hK.out _ _ HS (fun HS => ?_)
            clear hK
            refine wpAnyH_ready (rs := [7, 11]) (by kernel_rfl) (by simp) ?_
            refine AllReadyH.cons (o := _) (Arl.nth_some rfl) (fun K hK => ?_) (AllReadyH.cons (o := _) (Arl.nth_some rfl) (fun K hK => ?_) AllReadyH.nil)
            · skip
              go_simp
              go_at_call 33
              refine (quotAll SM.out.1 SM.out.2 GD.out m1 m2 v3 v4 hm1 hm2 hv3 hv4 _).mono ?_
              rintro e w116 ⟨s1, s2, rfl, hs1, hs2, hb⟩
              (try refine ⟨_, rfl, ?_⟩)
              have HS1 := STEP _ _ HS hb
              replace HS := HS1
              clear HS1 hb
              refine hK.out _ _ HS (fun HS => ?_)
              clear hK
              refine Arl.take (i := 8) (v := ?_) rfl (by kernel_rfl) (by kernel_rfl) (by kernel_rfl) (fun _ _ _ h => h) (by rfl) ?_ HS ?_
              rotate_left
              · (intro w0 hS0; go_simp; try (with_reducible rfl))
              simp only [Act.put, List.setIfInBounds_toArray, List.set_cons_zero, List.set_cons_succ]
              refine Arl.take (i := 9) (v := ?_) rfl (by kernel_rfl) (by kernel_rfl) (by kernel_rfl) (fun _ _ _ h => h) (by rfl) ?_ HS ?_
              rotate_left
              · (intro w0 hS0; go_simp; try (with_reducible rfl))
              simp only [Act.put, List.setIfInBounds_toArray, List.set_cons_zero, List.set_cons_succ]
              refine Arl.take (i := 10) (v := ?_) rfl (by kernel_rfl) (by kernel_rfl) (by kernel_rfl) (fun _ _ _ h => h) (by rfl) ?_ HS ?_
              rotate_left
              · (intro w0 hS0; go_simp; try (with_reducible rfl))
              simp only [Act.put, List.setIfInBounds_toArray, List.set_cons_zero, List.set_cons_succ]
              refine wpAnyH_ready (rs := [11]) (by kernel_rfl) (by simp) ?_
              refine AllReadyH.cons (o := _) (Arl.nth_some rfl) (fun K hK => ?_) AllReadyH.nil
              refine box_step (by rfl) (N := 7) rfl (cs := #[.float .f64 0, .float .f64 0]) (t := 34) (by first | (go_simp; done) | (go_simp; rfl)) ?_
              intro g6 hg_ w117 hbox_ hb
              have K6 := Aside0.mk hbox_
              have G6 := Aside0.mk (show w.heap.size ≤ g6 by rw [hg_]; exact below_size HS.2.2.2)
              have N63 := Aside0.mk (show g6 ≠ g3 by rw [hg_]; exact Nat.ne_of_gt (blk_lt HS.1))
              have N64 := Aside0.mk (show g6 ≠ g4 by rw [hg_]; exact Nat.ne_of_gt (blk_lt HS.2.1))
              have N65 := Aside0.mk (show g6 ≠ g5 by rw [hg_]; exact Nat.ne_of_gt (blk_lt HS.2.2.1))
              have HS1 := STEP _ _ HS hb
              replace HS := HS1
              clear HS1 hb hg_ hbox_
              refine hK.out _ _ HS (fun HS => ?_)
              clear hK
              refine wpAnyH_ready (rs := [12]) (by kernel_rfl) (by simp) ?_
              refine AllReadyH.cons (o := _) (Arl.nth_some rfl) (fun K hK => ?_) AllReadyH.nil
              refine store_step (by rfl) (T := 34) (p := 7) (g := g6) (old := #[.float .f64 0, .float .f64 0]) (cs := #[.float .f64 s1, .float .f64 s2]) (t := 34) rfl rfl rfl rfl K6.out (by kernel_rfl) rfl (by simp [Value.oneCell']) ?_
              intro w118 hs_ hk_ hB_
              have K7 := Aside0.mk hs_
              have HS1 := (show _ ∧ _ ∧ _ ∧ _ from ⟨(hk_ _ N63.out.symm).trans HS.1, (hk_ _ N64.out.symm).trans HS.2.1, (hk_ _ N65.out.symm).trans HS.2.2.1, hB_ _ _ HS.2.2.2 G6.out⟩)
              replace HS := HS1
              clear HS1 hs_ hk_ hB_ K6
              refine hK.out _ _ HS (fun HS => ?_)
              clear hK
              refine Arl.take (i := 13) (v := ?_) rfl (by kernel_rfl) (by kernel_rfl) (by kernel_rfl) (fun _ _ _ h => h) (by rfl) ?_ HS ?_
              rotate_left
              · (intro w0 hS0; go_simp; try (with_reducible rfl))
              simp only [Act.put, List.setIfInBounds_toArray, List.set_cons_zero, List.set_cons_succ]
              refine wpAnyH_done (by kernel_rfl) ?_ _
              go_wp2_with fail
              go_meet
              case rel => exact ⟨g6, s1, s2, rfl, rfl, ⟨HS.1⟩, ⟨HS.2.2.1⟩, K7, ⟨hs1⟩, ⟨hs2⟩, ⟨HS.2.2.2⟩⟩
            · skip
              refine box_step (by rfl) (N := 7) rfl (cs := #[.float .f64 0, .float .f64 0]) (t := 34) (by first | (go_simp; done) | (go_simp; rfl)) ?_
              intro g6 hg_ w119 hbox_ hb
              have K6 := Aside0.mk hbox_
              have G6 := Aside0.mk (show w.heap.size ≤ g6 by rw [hg_]; exact below_size HS.2.2.2)
              have N63 := Aside0.mk (show g6 ≠ g3 by rw [hg_]; exact Nat.ne_of_gt (blk_lt HS.1))
              have N64 := Aside0.mk (show g6 ≠ g4 by rw [hg_]; exact Nat.ne_of_gt (blk_lt HS.2.1))
              have N65 := Aside0.mk (show g6 ≠ g5 by rw [hg_]; exact Nat.ne_of_gt (blk_lt HS.2.2.1))
              have HS1 := STEP _ _ HS hb
              replace HS := HS1
              clear HS1 hb hg_ hbox_
              refine hK.out _ _ HS (fun HS => ?_)
              clear hK
              refine wpAnyH_ready (rs := [7]) (by kernel_rfl) (by simp) ?_
              refine AllReadyH.cons (o := _) (Arl.nth_some rfl) (fun K hK => ?_) AllReadyH.nil
              go_simp
              go_at_call 33
              refine (quotAll SM.out.1 SM.out.2 GD.out m1 m2 v3 v4 hm1 hm2 hv3 hv4 _).mono ?_
              rintro e w120 ⟨s1, s2, rfl, hs1, hs2, hb⟩
              (try refine ⟨_, rfl, ?_⟩)
              have HS1 := STEP _ _ HS hb
              have n6 := Aside0.mk (blk_below K6.out hb)
              have nG := Aside0.mk (Nat.le_refl 0)
              clear K6 nG
              have K6 := n6
              clear n6
              replace HS := HS1
              clear HS1 hb
              refine hK.out _ _ HS (fun HS => ?_)
              clear hK
              refine Arl.take (i := 8) (v := ?_) rfl (by kernel_rfl) (by kernel_rfl) (by kernel_rfl) (fun _ _ _ h => h) (by rfl) ?_ HS ?_
              rotate_left
              · (intro w0 hS0; go_simp; try (with_reducible rfl))
              simp only [Act.put, List.setIfInBounds_toArray, List.set_cons_zero, List.set_cons_succ]
              refine Arl.take (i := 9) (v := ?_) rfl (by kernel_rfl) (by kernel_rfl) (by kernel_rfl) (fun _ _ _ h => h) (by rfl) ?_ HS ?_
              rotate_left
              · (intro w0 hS0; go_simp; try (with_reducible rfl))
              simp only [Act.put, List.setIfInBounds_toArray, List.set_cons_zero, List.set_cons_succ]
              refine Arl.take (i := 10) (v := ?_) rfl (by kernel_rfl) (by kernel_rfl) (by kernel_rfl) (fun _ _ _ h => h) (by rfl) ?_ HS ?_
              rotate_left
              · (intro w0 hS0; go_simp; try (with_reducible rfl))
              simp only [Act.put, List.setIfInBounds_toArray, List.set_cons_zero, List.set_cons_succ]
              refine wpAnyH_ready (rs := [12]) (by kernel_rfl) (by simp) ?_
              refine AllReadyH.cons (o := _) (Arl.nth_some rfl) (fun K hK => ?_) AllReadyH.nil
              refine store_step (by rfl) (T := 34) (p := 7) (g := g6) (old := #[.float .f64 0, .float .f64 0]) (cs := #[.float .f64 s1, .float .f64 s2]) (t := 34) rfl rfl rfl rfl K6.out (by kernel_rfl) rfl (by simp [Value.oneCell']) ?_
              intro w121 hs_ hk_ hB_
              have K7 := Aside0.mk hs_
              have HS1 := (show _ ∧ _ ∧ _ ∧ _ from ⟨(hk_ _ N63.out.symm).trans HS.1, (hk_ _ N64.out.symm).trans HS.2.1, (hk_ _ N65.out.symm).trans HS.2.2.1, hB_ _ _ HS.2.2.2 G6.out⟩)
              replace HS := HS1
              clear HS1 hs_ hk_ hB_ K6
              refine hK.out _ _ HS (fun HS => ?_)
              clear hK
              refine Arl.take (i := 13) (v := ?_) rfl (by kernel_rfl) (by kernel_rfl) (by kernel_rfl) (fun _ _ _ h => h) (by rfl) ?_ HS ?_
              rotate_left
              · (intro w0 hS0; go_simp; try (with_reducible rfl))
              simp only [Act.put, List.setIfInBounds_toArray, List.set_cons_zero, List.set_cons_succ]
              refine wpAnyH_done (by kernel_rfl) ?_ _
              go_wp2_with fail
              go_meet
              case rel => exact ⟨g6, s1, s2, rfl, rfl, ⟨HS.1⟩, ⟨HS.2.2.1⟩, K7, ⟨hs1⟩, ⟨hs2⟩, ⟨HS.2.2.2⟩⟩
          · skip
            refine box_step (by rfl) (N := 7) rfl (cs := #[.float .f64 0, .float .f64 0]) (t := 34) (by first | (go_simp; done) | (go_simp; rfl)) ?_
            intro g6 hg_ w122 hbox_ hb
            have K6 := Aside0.mk hbox_
            have G6 := Aside0.mk (show w.heap.size ≤ g6 by rw [hg_]; exact below_size HS.2.2.2)
            have N63 := Aside0.mk (show g6 ≠ g3 by rw [hg_]; exact Nat.ne_of_gt (blk_lt HS.1))
            have N64 := Aside0.mk (show g6 ≠ g4 by rw [hg_]; exact Nat.ne_of_gt (blk_lt HS.2.1))
            have N65 := Aside0.mk (show g6 ≠ g5 by rw [hg_]; exact Nat.ne_of_gt (blk_lt HS.2.2.1))
            have HS1 := STEP _ _ HS hb
            replace HS := HS1
            clear HS1 hb hg_ hbox_
            refine hK.out _ _ HS (fun HS => ?_)
            clear hK
            refine wpAnyH_ready (rs := [6]) (by kernel_rfl) (by simp) ?_
            refine AllReadyH.cons (o := _) (Arl.nth_some rfl) (fun K hK => ?_) AllReadyH.nil
            go_simp
            go_at_call 24
            refine (widenW.calls y1 y2 _ _ Y1.out Y2.out GD.out.B.1 GD.out.B.2 _).mono ?_
            rintro e w123 ⟨v3, v4, rfl, hv3, hv4, hb⟩
            (try refine ⟨_, rfl, ?_⟩)
            have HS1 := STEP _ _ HS hb
            have n6 := Aside0.mk (blk_below K6.out hb)
            have nG := Aside0.mk (Nat.le_refl 0)
            clear K6 nG
            have K6 := n6
            clear n6
            replace HS := HS1
            clear HS1 hb
            refine hK.out _ _ HS (fun HS => ?_)
            clear hK
            refine wpAnyH_ready (rs := [7]) (by kernel_rfl) (by simp) ?_
            refine AllReadyH.cons (o := _) (Arl.nth_some rfl) (fun K hK => ?_) AllReadyH.nil
            go_simp
            go_at_call 33
            refine (quotAll SM.out.1 SM.out.2 GD.out m1 m2 v3 v4 hm1 hm2 hv3 hv4 _).mono ?_
            rintro e w124 ⟨s1, s2, rfl, hs1, hs2, hb⟩
            (try refine ⟨_, rfl, ?_⟩)
            have HS1 := STEP _ _ HS hb
            have n6 := Aside0.mk (blk_below K6.out hb)
            have nG := Aside0.mk (Nat.le_refl 0)
            clear K6 nG
            have K6 := n6
            clear n6
            replace HS := HS1
            clear HS1 hb
            refine hK.out _ _ HS (fun HS => ?_)
            clear hK
            refine Arl.take (i := 8) (v := ?_) rfl (by kernel_rfl) (by kernel_rfl) (by kernel_rfl) (fun _ _ _ h => h) (by rfl) ?_ HS ?_
            rotate_left
            · (intro w0 hS0; go_simp; try (with_reducible rfl))
            simp only [Act.put, List.setIfInBounds_toArray, List.set_cons_zero, List.set_cons_succ]
            refine Arl.take (i := 9) (v := ?_) rfl (by kernel_rfl) (by kernel_rfl) (by kernel_rfl) (fun _ _ _ h => h) (by rfl) ?_ HS ?_
            rotate_left
            · (intro w0 hS0; go_simp; try (with_reducible rfl))
            simp only [Act.put, List.setIfInBounds_toArray, List.set_cons_zero, List.set_cons_succ]
            refine Arl.take (i := 10) (v := ?_) rfl (by kernel_rfl) (by kernel_rfl) (by kernel_rfl) (fun _ _ _ h => h) (by rfl) ?_ HS ?_
            rotate_left
            · (intro w0 hS0; go_simp; try (with_reducible rfl))
            simp only [Act.put, List.setIfInBounds_toArray, List.set_cons_zero, List.set_cons_succ]
            refine wpAnyH_ready (rs := [12]) (by kernel_rfl) (by simp) ?_
            refine AllReadyH.cons (o := _) (Arl.nth_some rfl) (fun K hK => ?_) AllReadyH.nil
            refine store_step (by rfl) (T := 34) (p := 7) (g := g6) (old := #[.float .f64 0, .float .f64 0]) (cs := #[.float .f64 s1, .float .f64 s2]) (t := 34) rfl rfl rfl rfl K6.out (by kernel_rfl) rfl (by simp [Value.oneCell']) ?_
            intro w125 hs_ hk_ hB_
            have K7 := Aside0.mk hs_
            have HS1 := (show _ ∧ _ ∧ _ ∧ _ from ⟨(hk_ _ N63.out.symm).trans HS.1, (hk_ _ N64.out.symm).trans HS.2.1, (hk_ _ N65.out.symm).trans HS.2.2.1, hB_ _ _ HS.2.2.2 G6.out⟩)
            replace HS := HS1
            clear HS1 hs_ hk_ hB_ K6
            refine hK.out _ _ HS (fun HS => ?_)
            clear hK
            refine Arl.take (i := 13) (v := ?_) rfl (by kernel_rfl) (by kernel_rfl) (by kernel_rfl) (fun _ _ _ h => h) (by rfl) ?_ HS ?_
            rotate_left
            · (intro w0 hS0; go_simp; try (with_reducible rfl))
            simp only [Act.put, List.setIfInBounds_toArray, List.set_cons_zero, List.set_cons_succ]
            refine wpAnyH_done (by kernel_rfl) ?_ _
            go_wp2_with fail
            go_meet
            case rel => exact ⟨g6, s1, s2, rfl, rfl, ⟨HS.1⟩, ⟨HS.2.2.1⟩, K7, ⟨hs1⟩, ⟨hs2⟩, ⟨HS.2.2.2⟩⟩
        · skip
          refine box_step (by rfl) (N := 7) rfl (cs := #[.float .f64 0, .float .f64 0]) (t := 34) (by first | (go_simp; done) | (go_simp; rfl)) ?_
          intro g6 hg_ w126 hbox_ hb
          have K6 := Aside0.mk hbox_
          have G6 := Aside0.mk (show w.heap.size ≤ g6 by rw [hg_]; exact below_size HS.2.2.2)
          have N63 := Aside0.mk (show g6 ≠ g3 by rw [hg_]; exact Nat.ne_of_gt (blk_lt HS.1))
          have N64 := Aside0.mk (show g6 ≠ g4 by rw [hg_]; exact Nat.ne_of_gt (blk_lt HS.2.1))
          have N65 := Aside0.mk (show g6 ≠ g5 by rw [hg_]; exact Nat.ne_of_gt (blk_lt HS.2.2.1))
          have HS1 := STEP _ _ HS hb
          replace HS := HS1
          clear HS1 hb hg_ hbox_
          refine hK.out _ _ HS (fun HS => ?_)
          clear hK
          refine wpAnyH_ready (rs := [4]) (by kernel_rfl) (by simp) ?_
          refine AllReadyH.cons (o := _) (Arl.nth_some rfl) (fun K hK => ?_) AllReadyH.nil
          go_simp
          go_at_call 27
          refine (mulW.calls u1 u2 _ _ hu1 hu2 SM.out.1.B SM.out.2.B v1 v2 _ _ hv1 hv2 GD.out.B.1 GD.out.B.2 (prods (SM.out.1) (SM.out.2) GD.out).1 (prods (SM.out.1) (SM.out.2) GD.out).2.1 (prods (SM.out.1) (SM.out.2) GD.out).2.2.1 (prods (SM.out.1) (SM.out.2) GD.out).2.2.2.1 (prods (SM.out.1) (SM.out.2) GD.out).2.2.2.2.1 (prods (SM.out.1) (SM.out.2) GD.out).2.2.2.2.2 _).mono ?_
          rintro e w127 ⟨m1, m2, rfl, hm1, hm2, hb⟩
          (try refine ⟨_, rfl, ?_⟩)
          have HS1 := STEP _ _ HS hb
          have n6 := Aside0.mk (blk_below K6.out hb)
          have nG := Aside0.mk (Nat.le_refl 0)
          clear K6 nG
          have K6 := n6
          clear n6
          replace HS := HS1
          clear HS1 hb
          refine hK.out _ _ HS (fun HS => ?_)
          clear hK
          refine wpAnyH_ready (rs := [6]) (by kernel_rfl) (by simp) ?_
          refine AllReadyH.cons (o := _) (Arl.nth_some rfl) (fun K hK => ?_) AllReadyH.nil
          go_simp
          go_at_call 24
          refine (widenW.calls y1 y2 _ _ Y1.out Y2.out GD.out.B.1 GD.out.B.2 _).mono ?_
          rintro e w128 ⟨v3, v4, rfl, hv3, hv4, hb⟩
          (try refine ⟨_, rfl, ?_⟩)
          have HS1 := STEP _ _ HS hb
          have n6 := Aside0.mk (blk_below K6.out hb)
          have nG := Aside0.mk (Nat.le_refl 0)
          clear K6 nG
          have K6 := n6
          clear n6
          replace HS := HS1
          clear HS1 hb
          refine hK.out _ _ HS (fun HS => ?_)
          clear hK
          refine wpAnyH_ready (rs := [7]) (by kernel_rfl) (by simp) ?_
          refine AllReadyH.cons (o := _) (Arl.nth_some rfl) (fun K hK => ?_) AllReadyH.nil
          go_simp
          go_at_call 33
          refine (quotAll SM.out.1 SM.out.2 GD.out m1 m2 v3 v4 hm1 hm2 hv3 hv4 _).mono ?_
          rintro e w129 ⟨s1, s2, rfl, hs1, hs2, hb⟩
          (try refine ⟨_, rfl, ?_⟩)
          have HS1 := STEP _ _ HS hb
          have n6 := Aside0.mk (blk_below K6.out hb)
          have nG := Aside0.mk (Nat.le_refl 0)
          clear K6 nG
          have K6 := n6
          clear n6
          replace HS := HS1
          clear HS1 hb
          refine hK.out _ _ HS (fun HS => ?_)
          clear hK
          refine Arl.take (i := 8) (v := ?_) rfl (by kernel_rfl) (by kernel_rfl) (by kernel_rfl) (fun _ _ _ h => h) (by rfl) ?_ HS ?_
          rotate_left
          · (intro w0 hS0; go_simp; try (with_reducible rfl))
          simp only [Act.put, List.setIfInBounds_toArray, List.set_cons_zero, List.set_cons_succ]
          refine Arl.take (i := 9) (v := ?_) rfl (by kernel_rfl) (by kernel_rfl) (by kernel_rfl) (fun _ _ _ h => h) (by rfl) ?_ HS ?_
          rotate_left
          · (intro w0 hS0; go_simp; try (with_reducible rfl))
          simp only [Act.put, List.setIfInBounds_toArray, List.set_cons_zero, List.set_cons_succ]
          refine Arl.take (i := 10) (v := ?_) rfl (by kernel_rfl) (by kernel_rfl) (by kernel_rfl) (fun _ _ _ h => h) (by rfl) ?_ HS ?_
          rotate_left
          · (intro w0 hS0; go_simp; try (with_reducible rfl))
          simp only [Act.put, List.setIfInBounds_toArray, List.set_cons_zero, List.set_cons_succ]
          refine wpAnyH_ready (rs := [12]) (by kernel_rfl) (by simp) ?_
          refine AllReadyH.cons (o := _) (Arl.nth_some rfl) (fun K hK => ?_) AllReadyH.nil
          refine store_step (by rfl) (T := 34) (p := 7) (g := g6) (old := #[.float .f64 0, .float .f64 0]) (cs := #[.float .f64 s1, .float .f64 s2]) (t := 34) rfl rfl rfl rfl K6.out (by kernel_rfl) rfl (by simp [Value.oneCell']) ?_
          intro w130 hs_ hk_ hB_
          have K7 := Aside0.mk hs_
          have HS1 := (show _ ∧ _ ∧ _ ∧ _ from ⟨(hk_ _ N63.out.symm).trans HS.1, (hk_ _ N64.out.symm).trans HS.2.1, (hk_ _ N65.out.symm).trans HS.2.2.1, hB_ _ _ HS.2.2.2 G6.out⟩)
          replace HS := HS1
          clear HS1 hs_ hk_ hB_ K6
          refine hK.out _ _ HS (fun HS => ?_)
          clear hK
          refine Arl.take (i := 13) (v := ?_) rfl (by kernel_rfl) (by kernel_rfl) (by kernel_rfl) (fun _ _ _ h => h) (by rfl) ?_ HS ?_
          rotate_left
          · (intro w0 hS0; go_simp; try (with_reducible rfl))
          simp only [Act.put, List.setIfInBounds_toArray, List.set_cons_zero, List.set_cons_succ]
          refine wpAnyH_done (by kernel_rfl) ?_ _
          go_wp2_with fail
          go_meet
          case rel => exact ⟨g6, s1, s2, rfl, rfl, ⟨HS.1⟩, ⟨HS.2.2.1⟩, K7, ⟨hs1⟩, ⟨hs2⟩, ⟨HS.2.2.2⟩⟩
      · skip
        refine box_step (by rfl) (N := 7) rfl (cs := #[.float .f64 0, .float .f64 0]) (t := 34) (by first | (go_simp; done) | (go_simp; rfl)) ?_
        intro g6 hg_ w131 hbox_ hb
        have K6 := Aside0.mk hbox_
        have G6 := Aside0.mk (show w.heap.size ≤ g6 by rw [hg_]; exact below_size HS.2.2.2)
        have N63 := Aside0.mk (show g6 ≠ g3 by rw [hg_]; exact Nat.ne_of_gt (blk_lt HS.1))
        have N64 := Aside0.mk (show g6 ≠ g4 by rw [hg_]; exact Nat.ne_of_gt (blk_lt HS.2.1))
        have N65 := Aside0.mk (show g6 ≠ g5 by rw [hg_]; exact Nat.ne_of_gt (blk_lt HS.2.2.1))
        have HS1 := STEP _ _ HS hb
        replace HS := HS1
        clear HS1 hb hg_ hbox_
        refine hK.out _ _ HS (fun HS => ?_)
        clear hK
        refine wpAnyH_ready (rs := [3]) (by kernel_rfl) (by simp) ?_
        refine AllReadyH.cons (o := _) (Arl.nth_some rfl) (fun K hK => ?_) AllReadyH.nil
        go_simp
        go_at_call 24
        refine (widenW.calls y1 y2 _ _ Y1.out Y2.out GD.out.B.1 GD.out.B.2 _).mono ?_
        rintro e w132 ⟨v1, v2, rfl, hv1, hv2, hb⟩
        (try refine ⟨_, rfl, ?_⟩)
        have HS1 := STEP _ _ HS hb
        have n6 := Aside0.mk (blk_below K6.out hb)
        have nG := Aside0.mk (Nat.le_refl 0)
        clear K6 nG
        have K6 := n6
        clear n6
        replace HS := HS1
        clear HS1 hb
        refine hK.out _ _ HS (fun HS => ?_)
        clear hK
        refine wpAnyH_ready (rs := [4]) (by kernel_rfl) (by simp) ?_
        refine AllReadyH.cons (o := _) (Arl.nth_some rfl) (fun K hK => ?_) AllReadyH.nil
        go_simp
        go_at_call 27
        refine (mulW.calls u1 u2 _ _ hu1 hu2 SM.out.1.B SM.out.2.B v1 v2 _ _ hv1 hv2 GD.out.B.1 GD.out.B.2 (prods (SM.out.1) (SM.out.2) GD.out).1 (prods (SM.out.1) (SM.out.2) GD.out).2.1 (prods (SM.out.1) (SM.out.2) GD.out).2.2.1 (prods (SM.out.1) (SM.out.2) GD.out).2.2.2.1 (prods (SM.out.1) (SM.out.2) GD.out).2.2.2.2.1 (prods (SM.out.1) (SM.out.2) GD.out).2.2.2.2.2 _).mono ?_
        rintro e w133 ⟨m1, m2, rfl, hm1, hm2, hb⟩
        (try refine ⟨_, rfl, ?_⟩)
        have HS1 := STEP _ _ HS hb
        have n6 := Aside0.mk (blk_below K6.out hb)
        have nG := Aside0.mk (Nat.le_refl 0)
        clear K6 nG
        have K6 := n6
        clear n6
        replace HS := HS1
        clear HS1 hb
        refine hK.out _ _ HS (fun HS => ?_)
        clear hK
        refine wpAnyH_ready (rs := [6]) (by kernel_rfl) (by simp) ?_
        refine AllReadyH.cons (o := _) (Arl.nth_some rfl) (fun K hK => ?_) AllReadyH.nil
        go_simp
        go_at_call 24
        refine (widenW.calls y1 y2 _ _ Y1.out Y2.out GD.out.B.1 GD.out.B.2 _).mono ?_
        rintro e w134 ⟨v3, v4, rfl, hv3, hv4, hb⟩
        (try refine ⟨_, rfl, ?_⟩)
        have HS1 := STEP _ _ HS hb
        have n6 := Aside0.mk (blk_below K6.out hb)
        have nG := Aside0.mk (Nat.le_refl 0)
        clear K6 nG
        have K6 := n6
        clear n6
        replace HS := HS1
        clear HS1 hb
        refine hK.out _ _ HS (fun HS => ?_)
        clear hK
        refine wpAnyH_ready (rs := [7]) (by kernel_rfl) (by simp) ?_
        refine AllReadyH.cons (o := _) (Arl.nth_some rfl) (fun K hK => ?_) AllReadyH.nil
        go_simp
        go_at_call 33
        refine (quotAll SM.out.1 SM.out.2 GD.out m1 m2 v3 v4 hm1 hm2 hv3 hv4 _).mono ?_
        rintro e w135 ⟨s1, s2, rfl, hs1, hs2, hb⟩
        (try refine ⟨_, rfl, ?_⟩)
        have HS1 := STEP _ _ HS hb
        have n6 := Aside0.mk (blk_below K6.out hb)
        have nG := Aside0.mk (Nat.le_refl 0)
        clear K6 nG
        have K6 := n6
        clear n6
        replace HS := HS1
        clear HS1 hb
        refine hK.out _ _ HS (fun HS => ?_)
        clear hK
        refine Arl.take (i := 8) (v := ?_) rfl (by kernel_rfl) (by kernel_rfl) (by kernel_rfl) (fun _ _ _ h => h) (by rfl) ?_ HS ?_
        rotate_left
        · (intro w0 hS0; go_simp; try (with_reducible rfl))
        simp only [Act.put, List.setIfInBounds_toArray, List.set_cons_zero, List.set_cons_succ]
        refine Arl.take (i := 9) (v := ?_) rfl (by kernel_rfl) (by kernel_rfl) (by kernel_rfl) (fun _ _ _ h => h) (by rfl) ?_ HS ?_
        rotate_left
        · (intro w0 hS0; go_simp; try (with_reducible rfl))
        simp only [Act.put, List.setIfInBounds_toArray, List.set_cons_zero, List.set_cons_succ]
        refine Arl.take (i := 10) (v := ?_) rfl (by kernel_rfl) (by kernel_rfl) (by kernel_rfl) (fun _ _ _ h => h) (by rfl) ?_ HS ?_
        rotate_left
        · (intro w0 hS0; go_simp; try (with_reducible rfl))
        simp only [Act.put, List.setIfInBounds_toArray, List.set_cons_zero, List.set_cons_succ]
        refine wpAnyH_ready (rs := [12]) (by kernel_rfl) (by simp) ?_
        refine AllReadyH.cons (o := _) (Arl.nth_some rfl) (fun K hK => ?_) AllReadyH.nil
        refine store_step (by rfl) (T := 34) (p := 7) (g := g6) (old := #[.float .f64 0, .float .f64 0]) (cs := #[.float .f64 s1, .float .f64 s2]) (t := 34) rfl rfl rfl rfl K6.out (by kernel_rfl) rfl (by simp [Value.oneCell']) ?_
        intro w136 hs_ hk_ hB_
        have K7 := Aside0.mk hs_
        have HS1 := (show _ ∧ _ ∧ _ ∧ _ from ⟨(hk_ _ N63.out.symm).trans HS.1, (hk_ _ N64.out.symm).trans HS.2.1, (hk_ _ N65.out.symm).trans HS.2.2.1, hB_ _ _ HS.2.2.2 G6.out⟩)
        replace HS := HS1
        clear HS1 hs_ hk_ hB_ K6
        refine hK.out _ _ HS (fun HS => ?_)
        clear hK
        refine Arl.take (i := 13) (v := ?_) rfl (by kernel_rfl) (by kernel_rfl) (by kernel_rfl) (fun _ _ _ h => h) (by rfl) ?_ HS ?_
        rotate_left
        · (intro w0 hS0; go_simp; try (with_reducible rfl))
        simp only [Act.put, List.setIfInBounds_toArray, List.set_cons_zero, List.set_cons_succ]
        refine wpAnyH_done (by kernel_rfl) ?_ _
        go_wp2_with fail
        go_meet
        case rel => exact ⟨g6, s1, s2, rfl, rfl, ⟨HS.1⟩, ⟨HS.2.2.1⟩, K7, ⟨hs1⟩, ⟨hs2⟩, ⟨HS.2.2.2⟩⟩
    · skip
      refine box_step (by rfl) (N := 7) rfl (cs := #[.float .f64 0, .float .f64 0]) (t := 34) (by first | (go_simp; done) | (go_simp; rfl)) ?_
      intro g6 hg_ w137 hbox_ hb
      have K6 := Aside0.mk hbox_
      have G6 := Aside0.mk (show w.heap.size ≤ g6 by rw [hg_]; exact below_size HS.2.2.2)
      have N63 := Aside0.mk (show g6 ≠ g3 by rw [hg_]; exact Nat.ne_of_gt (blk_lt HS.1))
      have N64 := Aside0.mk (show g6 ≠ g4 by rw [hg_]; exact Nat.ne_of_gt (blk_lt HS.2.1))
      have N65 := Aside0.mk (show g6 ≠ g5 by rw [hg_]; exact Nat.ne_of_gt (blk_lt HS.2.2.1))
      have HS1 := STEP _ _ HS hb
      replace HS := HS1
      clear HS1 hb hg_ hbox_
      refine hK.out _ _ HS (fun HS => ?_)
      clear hK
      refine wpAnyH_ready (rs := [1]) (by kernel_rfl) (by simp) ?_
      refine AllReadyH.cons (o := _) (Arl.nth_some rfl) (fun K hK => ?_) AllReadyH.nil
      go_simp
      go_at_call 24
      refine (widenW.calls x1 x2 _ _ X1.out X2.out SM.out.1.B SM.out.2.B _).mono ?_
      rintro e w138 ⟨u1, u2, rfl, hu1, hu2, hb⟩
      (try refine ⟨_, rfl, ?_⟩)
      have HS1 := STEP _ _ HS hb
      have n6 := Aside0.mk (blk_below K6.out hb)
      have nG := Aside0.mk (Nat.le_refl 0)
      clear K6 nG
      have K6 := n6
      clear n6
      replace HS := HS1
      clear HS1 hb
      refine hK.out _ _ HS (fun HS => ?_)
      clear hK
      refine wpAnyH_ready (rs := [3]) (by kernel_rfl) (by simp) ?_
      refine AllReadyH.cons (o := _) (Arl.nth_some rfl) (fun K hK => ?_) AllReadyH.nil
      go_simp
      go_at_call 24
      refine (widenW.calls y1 y2 _ _ Y1.out Y2.out GD.out.B.1 GD.out.B.2 _).mono ?_
      rintro e w139 ⟨v1, v2, rfl, hv1, hv2, hb⟩
      (try refine ⟨_, rfl, ?_⟩)
      have HS1 := STEP _ _ HS hb
      have n6 := Aside0.mk (blk_below K6.out hb)
      have nG := Aside0.mk (Nat.le_refl 0)
      clear K6 nG
      have K6 := n6
      clear n6
      replace HS := HS1
      clear HS1 hb
      refine hK.out _ _ HS (fun HS => ?_)
      clear hK
      refine wpAnyH_ready (rs := [4]) (by kernel_rfl) (by simp) ?_
      refine AllReadyH.cons (o := _) (Arl.nth_some rfl) (fun K hK => ?_) AllReadyH.nil
      go_simp
      go_at_call 27
      refine (mulW.calls u1 u2 _ _ hu1 hu2 SM.out.1.B SM.out.2.B v1 v2 _ _ hv1 hv2 GD.out.B.1 GD.out.B.2 (prods (SM.out.1) (SM.out.2) GD.out).1 (prods (SM.out.1) (SM.out.2) GD.out).2.1 (prods (SM.out.1) (SM.out.2) GD.out).2.2.1 (prods (SM.out.1) (SM.out.2) GD.out).2.2.2.1 (prods (SM.out.1) (SM.out.2) GD.out).2.2.2.2.1 (prods (SM.out.1) (SM.out.2) GD.out).2.2.2.2.2 _).mono ?_
      rintro e w140 ⟨m1, m2, rfl, hm1, hm2, hb⟩
      (try refine ⟨_, rfl, ?_⟩)
      have HS1 := STEP _ _ HS hb
      have n6 := Aside0.mk (blk_below K6.out hb)
      have nG := Aside0.mk (Nat.le_refl 0)
      clear K6 nG
      have K6 := n6
      clear n6
      replace HS := HS1
      clear HS1 hb
      refine hK.out _ _ HS (fun HS => ?_)
      clear hK
      refine wpAnyH_ready (rs := [6]) (by kernel_rfl) (by simp) ?_
      refine AllReadyH.cons (o := _) (Arl.nth_some rfl) (fun K hK => ?_) AllReadyH.nil
      go_simp
      go_at_call 24
      refine (widenW.calls y1 y2 _ _ Y1.out Y2.out GD.out.B.1 GD.out.B.2 _).mono ?_
      rintro e w141 ⟨v3, v4, rfl, hv3, hv4, hb⟩
      (try refine ⟨_, rfl, ?_⟩)
      have HS1 := STEP _ _ HS hb
      have n6 := Aside0.mk (blk_below K6.out hb)
      have nG := Aside0.mk (Nat.le_refl 0)
      clear K6 nG
      have K6 := n6
      clear n6
      replace HS := HS1
      clear HS1 hb
      refine hK.out _ _ HS (fun HS => ?_)
      clear hK
      refine wpAnyH_ready (rs := [7]) (by kernel_rfl) (by simp) ?_
      refine AllReadyH.cons (o := _) (Arl.nth_some rfl) (fun K hK => ?_) AllReadyH.nil
      go_simp
      go_at_call 33
      refine (quotAll SM.out.1 SM.out.2 GD.out m1 m2 v3 v4 hm1 hm2 hv3 hv4 _).mono ?_
      rintro e w142 ⟨s1, s2, rfl, hs1, hs2, hb⟩
      (try refine ⟨_, rfl, ?_⟩)
      have HS1 := STEP _ _ HS hb
      have n6 := Aside0.mk (blk_below K6.out hb)
      have nG := Aside0.mk (Nat.le_refl 0)
      clear K6 nG
      have K6 := n6
      clear n6
      replace HS := HS1
      clear HS1 hb
      refine hK.out _ _ HS (fun HS => ?_)
      clear hK
      refine Arl.take (i := 8) (v := ?_) rfl (by kernel_rfl) (by kernel_rfl) (by kernel_rfl) (fun _ _ _ h => h) (by rfl) ?_ HS ?_
      rotate_left
      · (intro w0 hS0; go_simp; try (with_reducible rfl))
      simp only [Act.put, List.setIfInBounds_toArray, List.set_cons_zero, List.set_cons_succ]
      refine Arl.take (i := 9) (v := ?_) rfl (by kernel_rfl) (by kernel_rfl) (by kernel_rfl) (fun _ _ _ h => h) (by rfl) ?_ HS ?_
      rotate_left
      · (intro w0 hS0; go_simp; try (with_reducible rfl))
      simp only [Act.put, List.setIfInBounds_toArray, List.set_cons_zero, List.set_cons_succ]
      refine Arl.take (i := 10) (v := ?_) rfl (by kernel_rfl) (by kernel_rfl) (by kernel_rfl) (fun _ _ _ h => h) (by rfl) ?_ HS ?_
      rotate_left
      · (intro w0 hS0; go_simp; try (with_reducible rfl))
      simp only [Act.put, List.setIfInBounds_toArray, List.set_cons_zero, List.set_cons_succ]
      refine wpAnyH_ready (rs := [12]) (by kernel_rfl) (by simp) ?_
      refine AllReadyH.cons (o := _) (Arl.nth_some rfl) (fun K hK => ?_) AllReadyH.nil
      refine store_step (by rfl) (T := 34) (p := 7) (g := g6) (old := #[.float .f64 0, .float .f64 0]) (cs := #[.float .f64 s1, .float .f64 s2]) (t := 34) rfl rfl rfl rfl K6.out (by kernel_rfl) rfl (by simp [Value.oneCell']) ?_
      intro w143 hs_ hk_ hB_
      have K7 := Aside0.mk hs_
      have HS1 := (show _ ∧ _ ∧ _ ∧ _ from ⟨(hk_ _ N63.out.symm).trans HS.1, (hk_ _ N64.out.symm).trans HS.2.1, (hk_ _ N65.out.symm).trans HS.2.2.1, hB_ _ _ HS.2.2.2 G6.out⟩)
      replace HS := HS1
      clear HS1 hs_ hk_ hB_ K6
      refine hK.out _ _ HS (fun HS => ?_)
      clear hK
      refine Arl.take (i := 13) (v := ?_) rfl (by kernel_rfl) (by kernel_rfl) (by kernel_rfl) (fun _ _ _ h => h) (by rfl) ?_ HS ?_
      rotate_left
      · (intro w0 hS0; go_simp; try (with_reducible rfl))
      simp only [Act.put, List.setIfInBounds_toArray, List.set_cons_zero, List.set_cons_succ]
      refine wpAnyH_done (by kernel_rfl) ?_ _
      go_wp2_with fail
      go_meet
      case rel => exact ⟨g6, s1, s2, rfl, rfl, ⟨HS.1⟩, ⟨HS.2.2.1⟩, K7, ⟨hs1⟩, ⟨hs2⟩, ⟨HS.2.2.2⟩⟩
  case rest =>
  obtain ⟨g7, s1, s2, rfl, rfl, U_g3, U_g5, U_g7, S1, S2, HB7⟩ := hcut
  clear T_g3 T_g4 T_g5 HB5
  have b0 : Wh.B 0 := by constructor <;> decide
  have hzero : ∀ (u1 u2 v1 v2 : Nat), W .f64 u1 (x - 128) → W .f64 u2 (y - 100) → W .f64 v1 0 → W .f64 v2 0 → ∀ w, Calls Try.prog 33 #[.agg #[.float .f64 u1, .float .f64 u2], .agg #[.float .f64 v1, .float .f64 v2]] w fun e w' => ∃ s1 s2, e = .returned (.tuple #[.agg #[.float .f64 s1, .float .f64 s2], .bool false]) ∧ W .f64 s1 0 ∧ W .f64 s2 0 ∧ Below w.heap.size w w' := fun u1 u2 v1 v2 h1 h2 h3 h4 w => (quot0.calls u1 u2 _ _ h1 h2 SM.out.1.B SM.out.2.B v1 v2 h3 h4 w).mono (fun e w' h => ⟨0, 0, h.1, W.zero _, W.zero _, h.2⟩)
  go_upto_region 8 with (first | ((with_reducible refine gate_dst (N := 54) rfl ?_); refine Arr.load_all rfl rfl rfl rfl U_g3.out hu26 rfl (by kernel_rfl) ?_) | (go_at_call 32; (with_reducible refine (quotS.calls x1 x2 _ _ X1.out X2.out SM.out.1.B SM.out.2.B 0 0 0 0 (W.zero _) (W.zero _) b0 b0 0 0 false b0 b0 hzero _).mono ?_); rintro e w9 ⟨z1, z2, rfl, hz1, hz2, hb⟩; (try refine ⟨_, rfl, ?_⟩); have n3 := Aside0.mk (blk_below U_g3.out hb); have n5 := Aside0.mk (blk_below U_g5.out hb); have n7 := Aside0.mk (blk_below U_g7.out hb); have nB := Aside0.mk (below_step HB7.out hb); clear U_g3 U_g5 U_g7 HB7 hb; have U_g3 := n3; have U_g5 := n5; have U_g7 := n7; have HB7 := nB; clear n3 n5 n7 nB))
  have STEP : ∀ W W' : World, (W.heap[g3]? = some (.cells #[.float .f32 x1, .float .f32 x2] 26 (0, 0)) ∧ W.heap[g5]? = some (.cells #[.float .f32 t1, .float .f32 t2] 26 (0, 0)) ∧ W.heap[g7]? = some (.cells #[.float .f64 s1, .float .f64 s2] 34 (0, 0)) ∧ Below w.heap.size w W) → Below W.heap.size W W' → (W'.heap[g3]? = some (.cells #[.float .f32 x1, .float .f32 x2] 26 (0, 0)) ∧ W'.heap[g5]? = some (.cells #[.float .f32 t1, .float .f32 t2] 26 (0, 0)) ∧ W'.heap[g7]? = some (.cells #[.float .f64 s1, .float .f64 s2] 34 (0, 0)) ∧ Below w.heap.size w W') := fun W W' h hb => ⟨blk_below h.1 hb, blk_below h.2.1 hb, blk_below h.2.2.1 hb, below_step h.2.2.2 hb⟩
  refine wp_region_held_drew (S := fun w' => (w'.heap[g3]? = some (.cells #[.float .f32 x1, .float .f32 x2] 26 (0, 0)) ∧ w'.heap[g5]? = some (.cells #[.float .f32 t1, .float .f32 t2] 26 (0, 0)) ∧ w'.heap[g7]? = some (.cells #[.float .f64 s1, .float .f64 s2] 34 (0, 0)) ∧ Below w.heap.size w w')) rfl (STEP _ _ ⟨(by (with_reducible repeat (first | refine blk_drewN ?_ _ | refine blk_drew ?_ | refine blk_alloc ?_ _)); exact U_g3.out), (by (with_reducible repeat (first | refine blk_drewN ?_ _ | refine blk_drew ?_ | refine blk_alloc ?_ _)); exact U_g5.out), (by (with_reducible repeat (first | refine blk_drewN ?_ _ | refine blk_drew ?_ | refine blk_alloc ?_ _)); exact U_g7.out), (by repeat (first | (with_reducible first | exact HB7.out | apply below_alloc | apply pw_below_drewN | apply below_drew1)))⟩ (below_drew1 (Below.refl _ _))) (fun HS => ?_)
  refine Arl.take (i := 0) (v := ?_) rfl (by kernel_rfl) (by kernel_rfl) (by kernel_rfl) (fun _ _ _ h => h) (by rfl) ?_ HS ?_
  rotate_left
  · (intro w0 hS0; go_simp; try (with_reducible rfl))
  simp only [Act.put, List.setIfInBounds_toArray, List.set_cons_zero, List.set_cons_succ]
  refine Arl.take (i := 1) (v := ?_) rfl (by kernel_rfl) (by kernel_rfl) (by kernel_rfl) (fun _ _ _ h => h) (by rfl) ?_ HS ?_
  rotate_left
  · (intro w0 hS0; go_simp; try (with_reducible rfl))
  simp only [Act.put, List.setIfInBounds_toArray, List.set_cons_zero, List.set_cons_succ]
  refine Arl.take (i := 2) (v := ?_) rfl (by kernel_rfl) (by kernel_rfl) (by kernel_rfl) (fun _ _ _ h => h) (by rfl) ?_ HS ?_
  rotate_left
  · (intro w0 hS0; go_simp; try (with_reducible rfl))
  simp only [Act.put, List.setIfInBounds_toArray, List.set_cons_zero, List.set_cons_succ]
  refine Arl.take (i := 3) (v := ?_) rfl (by kernel_rfl) (by kernel_rfl) (by kernel_rfl) (fun _ _ _ h => h) (by rfl) ?_ HS ?_
  rotate_left
  · (intro w0 hS0; go_simp; try (with_reducible rfl))
  simp only [Act.put, List.setIfInBounds_toArray, List.set_cons_zero, List.set_cons_succ]
  refine Arl.take (i := 4) (v := ?_) rfl (by kernel_rfl) (by kernel_rfl) (by kernel_rfl) (fun _ _ _ h => h) (by rfl) ?_ HS ?_
  rotate_left
  · (intro w0 hS0; go_simp; try (with_reducible rfl))
  simp only [Act.put, List.setIfInBounds_toArray, List.set_cons_zero, List.set_cons_succ]
  refine Arl.take (i := 5) (v := ?_) rfl (by kernel_rfl) (by kernel_rfl) (by kernel_rfl) (fun _ _ _ h => h) (by rfl) ?_ HS ?_
  rotate_left
  · (intro w0 hS0; go_simp; try (with_reducible rfl))
  simp only [Act.put, List.setIfInBounds_toArray, List.set_cons_zero, List.set_cons_succ]
  refine Arl.take (i := 6) (v := ?_) rfl (by kernel_rfl) (by kernel_rfl) (by kernel_rfl) (fun _ _ _ h => h) (by rfl) ?_ HS ?_
  rotate_left
  · (intro w0 hS0; go_simp; try (with_reducible rfl))
  simp only [Act.put, List.setIfInBounds_toArray, List.set_cons_zero, List.set_cons_succ]
  refine Arl.take (i := 7) (v := ?_) rfl (by kernel_rfl) (by kernel_rfl) (by kernel_rfl) (fun _ _ _ h => h) (by rfl) ?_ HS ?_
  rotate_left
  · (intro w0 hS0; go_simp; try (with_reducible rfl))
  simp only [Act.put, List.setIfInBounds_toArray, List.set_cons_zero, List.set_cons_succ]
  refine Arl.take (i := 8) (v := ?_) rfl (by kernel_rfl) (by kernel_rfl) (by kernel_rfl) (fun _ _ _ h => h) (by rfl) ?_ HS ?_
  rotate_left
  · (intro w0 hS0; go_simp; try (with_reducible rfl))
  simp only [Act.put, List.setIfInBounds_toArray, List.set_cons_zero, List.set_cons_succ]
  refine Arl.take (i := 9) (v := .agg #[.float .f32 t1, .float .f32 t2]) rfl (by kernel_rfl) (by kernel_rfl) (by kernel_rfl) (fun _ _ _ h => h) (by rfl) (fun W hW => load_run rfl rfl hW.2.1 hu26 rfl (by kernel_rfl)) HS ?_
  simp only [Act.put, List.setIfInBounds_toArray, List.set_cons_zero, List.set_cons_succ]
  refine Arl.take (i := 10) (v := .agg #[.float .f32 x1, .float .f32 x2]) rfl (by kernel_rfl) (by kernel_rfl) (by kernel_rfl) (fun _ _ _ h => h) (by rfl) (fun W hW => load_run rfl rfl hW.1 hu26 rfl (by kernel_rfl)) HS ?_
  simp only [Act.put, List.setIfInBounds_toArray, List.set_cons_zero, List.set_cons_succ]
  refine wpAnyH_ready (rs := [11]) (by kernel_rfl) (by simp) ?_
  refine AllReadyH.cons (o := _) (Arl.nth_some rfl) (fun K hK => ?_) AllReadyH.nil
  go_simp
  go_at_call 14
  refine (sameW.calls t1 t2 x1 x2 _ _ Q1.out Q2.out X1.out X2.out SM.out.1.B SM.out.2.B _).mono ?_
  rintro e w144 ⟨rfl, hb⟩
  (try refine ⟨_, rfl, ?_⟩)
  have HS1 := STEP _ _ HS hb
  replace HS := HS1
  clear HS1 hb
  refine hK.out _ _ HS (fun HS => ?_)
  clear hK
  refine Arl.take (i := 12) (v := ?_) rfl (by kernel_rfl) (by kernel_rfl) (by kernel_rfl) (fun _ _ _ h => h) (by rfl) ?_ HS ?_
  rotate_left
  · (intro w0 hS0; go_simp; try (with_reducible rfl))
  simp only [Act.put, List.setIfInBounds_toArray, List.set_cons_zero, List.set_cons_succ]
  refine Arl.take (i := 13) (v := ?_) rfl (by kernel_rfl) (by kernel_rfl) (by kernel_rfl) (fun _ _ _ h => h) (by rfl) ?_ HS ?_
  rotate_left
  · (intro w0 hS0; go_simp; try (with_reducible rfl))
  simp only [Act.put, List.setIfInBounds_toArray, List.set_cons_zero, List.set_cons_succ]
  refine Arl.take (i := 14) (v := .agg #[.float .f64 s1, .float .f64 s2]) rfl (by kernel_rfl) (by kernel_rfl) (by kernel_rfl) (fun _ _ _ h => h) (by rfl) (fun W hW => load_run rfl rfl hW.2.2.1 hu34 rfl (by kernel_rfl)) HS ?_
  simp only [Act.put, List.setIfInBounds_toArray, List.set_cons_zero, List.set_cons_succ]
  refine Arl.take (i := 16) (v := .agg #[.float .f32 x1, .float .f32 x2]) rfl (by kernel_rfl) (by kernel_rfl) (by kernel_rfl) (fun _ _ _ h => h) (by rfl) (fun W hW => load_run rfl rfl hW.1 hu26 rfl (by kernel_rfl)) HS ?_
  simp only [Act.put, List.setIfInBounds_toArray, List.set_cons_zero, List.set_cons_succ]
  refine wpAnyH_ready (rs := [15]) (by kernel_rfl) (by simp) ?_
  refine AllReadyH.cons (o := _) (Arl.nth_some rfl) (fun K hK => ?_) AllReadyH.nil
  go_simp
  go_at_call 20
  refine (narrowW.calls s1 s2 _ _ S1.out S2.out SM.out.1.B SM.out.2.B _).mono ?_
  rintro e w145 ⟨r1, r2, rfl, hr1, hr2, hb⟩
  (try refine ⟨_, rfl, ?_⟩)
  have HS1 := STEP _ _ HS hb
  replace HS := HS1
  clear HS1 hb
  refine hK.out _ _ HS (fun HS => ?_)
  clear hK
  refine wpAnyH_ready (rs := [17]) (by kernel_rfl) (by simp) ?_
  refine AllReadyH.cons (o := _) (Arl.nth_some rfl) (fun K hK => ?_) AllReadyH.nil
  go_simp
  go_at_call 34
  refine (alikeW.calls r1 r2 x1 x2 _ _ hr1 hr2 X1.out X2.out SM.out.1.B SM.out.2.B _).mono ?_
  rintro e w146 ⟨rfl, hb⟩
  (try refine ⟨_, rfl, ?_⟩)
  have HS1 := STEP _ _ HS hb
  replace HS := HS1
  clear HS1 hb
  refine hK.out _ _ HS (fun HS => ?_)
  clear hK
  refine Arl.take (i := 18) (v := ?_) rfl (by kernel_rfl) (by kernel_rfl) (by kernel_rfl) (fun _ _ _ h => h) (by rfl) ?_ HS ?_
  rotate_left
  · (intro w0 hS0; go_simp; try (with_reducible rfl))
  simp only [Act.put, List.setIfInBounds_toArray, List.set_cons_zero, List.set_cons_succ]
  refine Arl.take (i := 19) (v := ?_) rfl (by kernel_rfl) (by kernel_rfl) (by kernel_rfl) (fun _ _ _ h => h) (by rfl) ?_ HS ?_
  rotate_left
  · (intro w0 hS0; go_simp; try (with_reducible rfl))
  simp only [Act.put, List.setIfInBounds_toArray, List.set_cons_zero, List.set_cons_succ]
  refine wpAnyH_done (by kernel_rfl) ?_ _
  go_wp2
  go_ret
  exact ⟨rfl, HS.2.2.2⟩
end Go.Proofs.Ytplhdplebbhakaa.PFnQuotients
