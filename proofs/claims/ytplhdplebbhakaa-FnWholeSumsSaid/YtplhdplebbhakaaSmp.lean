/- The small functions of samples and of pairs: what each hands back. No condition. -/
import Derived.Test.YtplhdplebbhakaaFl
import Derived.Test.YtplhdplebbhakaaProg
import Derived.Test.YtplhdplebbhakaaWMore
import Derived.Test.YtplhdplebbhakaaWLast
set_option linter.unusedVariables false
set_option linter.unusedSimpArgs false
namespace Go.Proofs.Ytplhdplebbhakaa.Smp
open Go.RowKit Go.Proofs.YtplhdplebbhakaaW.PrintWords Go.Proofs.YtplhdplebbhakaaW.PrintLast Go.Proofs.YtplhdplebbhakaaW.PrintMore Go.Proofs.Ytplhdplebbhakaa.Fl
@[go_sem] theorem build26 (a b : Nat) (w : World) : (Instr.build 26 #[(0, .float .f32 a), (1, .float .f32 b)]).run Try.prog w = .ok (.agg #[.float .f32 a, .float .f32 b]) w := run_build w 26 _ _ (by kernel_rfl)
@[go_sem] theorem build34 (a b : Nat) (w : World) : (Instr.build 34 #[(0, .float .f64 a), (1, .float .f64 b)]).run Try.prog w = .ok (.agg #[.float .f64 a, .float .f64 b]) w := run_build w 34 _ _ (by kernel_rfl)
set_option maxHeartbeats 8000000 in
set_option maxRecDepth 100000 in
theorem toSample.calls (x1 x2 : Nat) (w : World) : Calls Try.prog 13 #[.agg #[.float .f32 x1, .float .f32 x2]] w fun e w' => e = .returned (.agg #[.float .f32 x1, .float .f32 x2]) ∧ Below w.heap.size w w' := by
  have hu22 := Try.underlying22
  have hu24 := Try.underlying24
  have hu26 := Try.underlying26
  have hu30 := Try.underlying30
  have hu32 := Try.underlying32
  have hu34 := Try.underlying34
  go_enter Try.func13, Try.ntmps13
  go_wp2
  go_returns
  exact ⟨rfl, by repeat (first | (with_reducible first | exact Below.refl _ _ | exact HB | apply below_alloc | apply pw_below_drewN | apply below_drew1 | refine below_set ?_ (by omega)))⟩
set_option maxHeartbeats 8000000 in
set_option maxRecDepth 100000 in
theorem toWide.calls (x1 x2 : Nat) (w : World) : Calls Try.prog 19 #[.agg #[.float .f64 x1, .float .f64 x2]] w fun e w' => e = .returned (.agg #[.float .f64 x1, .float .f64 x2]) ∧ Below w.heap.size w w' := by
  have hu22 := Try.underlying22
  have hu24 := Try.underlying24
  have hu26 := Try.underlying26
  have hu30 := Try.underlying30
  have hu32 := Try.underlying32
  have hu34 := Try.underlying34
  go_enter Try.func19, Try.ntmps19
  go_wp2
  go_returns
  exact ⟨rfl, by repeat (first | (with_reducible first | exact Below.refl _ _ | exact HB | apply below_alloc | apply pw_below_drewN | apply below_drew1 | refine below_set ?_ (by omega)))⟩
set_option maxHeartbeats 8000000 in
set_option maxRecDepth 100000 in
theorem spec_AddSample.calls (x1 x2 y1 y2 : Nat) (w : World) : Calls Try.prog 15 #[.agg #[.float .f32 x1, .float .f32 x2], .agg #[.float .f32 y1, .float .f32 y2]] w fun e w' => ∃ r1 r2, e = .returned (.agg #[.float .f32 r1, .float .f32 r2]) ∧ Res .f32 (floatBits .add .f32 x1 y1) r1 ∧ Res .f32 (floatBits .add .f32 x2 y2) r2 ∧ Below w.heap.size w w' := by
  have hu22 := Try.underlying22
  have hu24 := Try.underlying24
  have hu26 := Try.underlying26
  have hu30 := Try.underlying30
  have hu32 := Try.underlying32
  have hu34 := Try.underlying34
  go_enter Try.func15, Try.ntmps15
  go_wp2_with (first | ((with_reducible refine gate_dst (N := 9) rfl ?_); refine wpList_farith rfl rfl (by decide) rfl rfl ?_; intro r1 n1 h1) | ((with_reducible refine gate_dst (N := 14) rfl ?_); refine wpList_farith rfl rfl (by decide) rfl rfl ?_; intro r2 n2 h2))
  go_returns
  exact ⟨_, _, rfl, h1, h2, by repeat (first | (with_reducible first | exact Below.refl _ _ | exact HB | apply below_alloc | apply pw_below_drewN | apply below_drew1 | refine below_set ?_ (by omega)))⟩
set_option maxHeartbeats 8000000 in
set_option maxRecDepth 100000 in
theorem impl_AddSample.calls (x1 x2 y1 y2 : Nat) (w : World) : Calls Try.prog 16 #[.agg #[.float .f32 x1, .float .f32 x2], .agg #[.float .f32 y1, .float .f32 y2]] w fun e w' => ∃ r1 r2, e = .returned (.agg #[.float .f32 r1, .float .f32 r2]) ∧ Res .f32 (floatBits .add .f32 x1 y1) r1 ∧ Res .f32 (floatBits .add .f32 x2 y2) r2 ∧ Below w.heap.size w w' := by
  have hu22 := Try.underlying22
  have hu24 := Try.underlying24
  have hu26 := Try.underlying26
  have hu30 := Try.underlying30
  have hu32 := Try.underlying32
  have hu34 := Try.underlying34
  go_enter Try.func16, Try.ntmps16
  go_wp2_with (first | ((with_reducible refine gate_dst (N := 9) rfl ?_); refine wpList_farith rfl rfl (by decide) rfl rfl ?_; intro r1 n1 h1) | ((with_reducible refine gate_dst (N := 14) rfl ?_); refine wpList_farith rfl rfl (by decide) rfl rfl ?_; intro r2 n2 h2))
  go_returns
  exact ⟨_, _, rfl, h1, h2, by repeat (first | (with_reducible first | exact Below.refl _ _ | exact HB | apply below_alloc | apply pw_below_drewN | apply below_drew1 | refine below_set ?_ (by omega)))⟩
set_option maxHeartbeats 8000000 in
set_option maxRecDepth 100000 in
theorem spec_SubSample.calls (x1 x2 y1 y2 : Nat) (w : World) : Calls Try.prog 21 #[.agg #[.float .f32 x1, .float .f32 x2], .agg #[.float .f32 y1, .float .f32 y2]] w fun e w' => ∃ r1 r2, e = .returned (.agg #[.float .f32 r1, .float .f32 r2]) ∧ Res .f32 (floatBits .sub .f32 x1 y1) r1 ∧ Res .f32 (floatBits .sub .f32 x2 y2) r2 ∧ Below w.heap.size w w' := by
  have hu22 := Try.underlying22
  have hu24 := Try.underlying24
  have hu26 := Try.underlying26
  have hu30 := Try.underlying30
  have hu32 := Try.underlying32
  have hu34 := Try.underlying34
  go_enter Try.func21, Try.ntmps21
  go_wp2_with (first | ((with_reducible refine gate_dst (N := 9) rfl ?_); refine wpList_farith rfl rfl (by decide) rfl rfl ?_; intro r1 n1 h1) | ((with_reducible refine gate_dst (N := 14) rfl ?_); refine wpList_farith rfl rfl (by decide) rfl rfl ?_; intro r2 n2 h2))
  go_returns
  exact ⟨_, _, rfl, h1, h2, by repeat (first | (with_reducible first | exact Below.refl _ _ | exact HB | apply below_alloc | apply pw_below_drewN | apply below_drew1 | refine below_set ?_ (by omega)))⟩
set_option maxHeartbeats 8000000 in
set_option maxRecDepth 100000 in
theorem impl_SubSample.calls (x1 x2 y1 y2 : Nat) (w : World) : Calls Try.prog 22 #[.agg #[.float .f32 x1, .float .f32 x2], .agg #[.float .f32 y1, .float .f32 y2]] w fun e w' => ∃ r1 r2, e = .returned (.agg #[.float .f32 r1, .float .f32 r2]) ∧ Res .f32 (floatBits .sub .f32 x1 y1) r1 ∧ Res .f32 (floatBits .sub .f32 x2 y2) r2 ∧ Below w.heap.size w w' := by
  have hu22 := Try.underlying22
  have hu24 := Try.underlying24
  have hu26 := Try.underlying26
  have hu30 := Try.underlying30
  have hu32 := Try.underlying32
  have hu34 := Try.underlying34
  go_enter Try.func22, Try.ntmps22
  go_wp2_with (first | ((with_reducible refine gate_dst (N := 9) rfl ?_); refine wpList_farith rfl rfl (by decide) rfl rfl ?_; intro r1 n1 h1) | ((with_reducible refine gate_dst (N := 14) rfl ?_); refine wpList_farith rfl rfl (by decide) rfl rfl ?_; intro r2 n2 h2))
  go_returns
  exact ⟨_, _, rfl, h1, h2, by repeat (first | (with_reducible first | exact Below.refl _ _ | exact HB | apply below_alloc | apply pw_below_drewN | apply below_drew1 | refine below_set ?_ (by omega)))⟩
set_option maxHeartbeats 8000000 in
set_option maxRecDepth 100000 in
theorem spec_Widen.calls (x1 x2 : Nat) (w : World) : Calls Try.prog 23 #[.agg #[.float .f32 x1, .float .f32 x2]] w fun e w' => ∃ r1 r2, e = .returned (.agg #[.float .f64 r1, .float .f64 r2]) ∧ Wid x1 r1 ∧ Wid x2 r2 ∧ Below w.heap.size w w' := by
  have hu22 := Try.underlying22
  have hu24 := Try.underlying24
  have hu26 := Try.underlying26
  have hu30 := Try.underlying30
  have hu32 := Try.underlying32
  have hu34 := Try.underlying34
  go_enter Try.func23, Try.ntmps23
  go_wp2_with (first | ((with_reducible refine gate_dst (N := 5) rfl ?_); refine wpList_fconv rfl rfl Try.underlying22 Try.underlying30 rfl ?_; intro r1 n1 a1 b1 c1; have W1 := Aside0.mk (Wid.mk b1 c1); clear a1 b1 c1) | ((with_reducible refine gate_dst (N := 8) rfl ?_); refine wpList_fconv rfl rfl Try.underlying22 Try.underlying30 rfl ?_; intro r2 n2 a2 b2 c2; have W2 := Aside0.mk (Wid.mk b2 c2); clear a2 b2 c2))
  go_returns
  exact ⟨_, _, rfl, W1.out, W2.out, by repeat (first | (with_reducible first | exact Below.refl _ _ | exact HB | apply below_alloc | apply pw_below_drewN | apply below_drew1 | refine below_set ?_ (by omega)))⟩
set_option maxHeartbeats 8000000 in
set_option maxRecDepth 100000 in
theorem impl_Widen.calls (x1 x2 : Nat) (w : World) : Calls Try.prog 24 #[.agg #[.float .f32 x1, .float .f32 x2]] w fun e w' => ∃ r1 r2, e = .returned (.agg #[.float .f64 r1, .float .f64 r2]) ∧ Wid x1 r1 ∧ Wid x2 r2 ∧ Below w.heap.size w w' := by
  have hu22 := Try.underlying22
  have hu24 := Try.underlying24
  have hu26 := Try.underlying26
  have hu30 := Try.underlying30
  have hu32 := Try.underlying32
  have hu34 := Try.underlying34
  go_enter Try.func24, Try.ntmps24
  go_wp2_with (first | ((with_reducible refine gate_dst (N := 5) rfl ?_); refine wpList_fconv rfl rfl Try.underlying22 Try.underlying30 rfl ?_; intro r1 n1 a1 b1 c1; have W1 := Aside0.mk (Wid.mk b1 c1); clear a1 b1 c1) | ((with_reducible refine gate_dst (N := 8) rfl ?_); refine wpList_fconv rfl rfl Try.underlying22 Try.underlying30 rfl ?_; intro r2 n2 a2 b2 c2; have W2 := Aside0.mk (Wid.mk b2 c2); clear a2 b2 c2))
  go_returns
  exact ⟨_, _, rfl, W1.out, W2.out, by repeat (first | (with_reducible first | exact Below.refl _ _ | exact HB | apply below_alloc | apply pw_below_drewN | apply below_drew1 | refine below_set ?_ (by omega)))⟩
set_option maxHeartbeats 8000000 in
set_option maxRecDepth 100000 in
theorem spec_MulWide.calls (x1 x2 y1 y2 : Nat) (w : World) : Calls Try.prog 26 #[.agg #[.float .f64 x1, .float .f64 x2], .agg #[.float .f64 y1, .float .f64 y2]] w fun e w' => ∃ r1 r2 r3 r4 r5 r6, e = .returned (.agg #[.float .f64 r5, .float .f64 r6]) ∧ Res .f64 (floatBits .mul .f64 x1 y1) r1 ∧ Res .f64 (floatBits .mul .f64 x2 y2) r2 ∧ Res .f64 (floatBits .mul .f64 x1 y2) r3 ∧ Res .f64 (floatBits .mul .f64 x2 y1) r4 ∧ Res .f64 (floatBits .sub .f64 r1 r2) r5 ∧ Res .f64 (floatBits .add .f64 r3 r4) r6 ∧ Below w.heap.size w w' := by
  have hu22 := Try.underlying22
  have hu24 := Try.underlying24
  have hu26 := Try.underlying26
  have hu30 := Try.underlying30
  have hu32 := Try.underlying32
  have hu34 := Try.underlying34
  go_enter Try.func26, Try.ntmps26
  go_wp2_with (first | ((with_reducible refine gate_dst (N := 13) rfl ?_); refine wpList_farith rfl rfl (by decide) rfl rfl ?_; intro r1 n1 h1) | ((with_reducible refine gate_dst (N := 18) rfl ?_); refine wpList_farith rfl rfl (by decide) rfl rfl ?_; intro r2 n2 h2) | ((with_reducible refine gate_dst (N := 23) rfl ?_); refine wpList_farith rfl rfl (by decide) rfl rfl ?_; intro r3 n3 h3) | ((with_reducible refine gate_dst (N := 28) rfl ?_); refine wpList_farith rfl rfl (by decide) rfl rfl ?_; intro r4 n4 h4) | ((with_reducible refine gate_dst (N := 31) rfl ?_); refine wpList_farith rfl rfl (by decide) rfl rfl ?_; intro r5 n5 h5) | ((with_reducible refine gate_dst (N := 34) rfl ?_); refine wpList_farith rfl rfl (by decide) rfl rfl ?_; intro r6 n6 h6))
  go_returns
  exact ⟨_, _, _, _, _, _, rfl, h1, h2, h3, h4, h5, h6, by repeat (first | (with_reducible first | exact Below.refl _ _ | exact HB | apply below_alloc | apply pw_below_drewN | apply below_drew1 | refine below_set ?_ (by omega)))⟩
set_option maxHeartbeats 8000000 in
set_option maxRecDepth 100000 in
theorem impl_MulWide.calls (x1 x2 y1 y2 : Nat) (w : World) : Calls Try.prog 27 #[.agg #[.float .f64 x1, .float .f64 x2], .agg #[.float .f64 y1, .float .f64 y2]] w fun e w' => ∃ r1 r2 r3 r4 r5 r6, e = .returned (.agg #[.float .f64 r5, .float .f64 r6]) ∧ Res .f64 (floatBits .mul .f64 x1 y1) r1 ∧ Res .f64 (floatBits .mul .f64 x2 y2) r2 ∧ Res .f64 (floatBits .mul .f64 x1 y2) r3 ∧ Res .f64 (floatBits .mul .f64 x2 y1) r4 ∧ Res .f64 (floatBits .sub .f64 r1 r2) r5 ∧ Res .f64 (floatBits .add .f64 r3 r4) r6 ∧ Below w.heap.size w w' := by
  have hu22 := Try.underlying22
  have hu24 := Try.underlying24
  have hu26 := Try.underlying26
  have hu30 := Try.underlying30
  have hu32 := Try.underlying32
  have hu34 := Try.underlying34
  go_enter Try.func27, Try.ntmps27
  go_wp2_with (first | ((with_reducible refine gate_dst (N := 9) rfl ?_); refine wpList_farith rfl rfl (by decide) rfl rfl ?_; intro r1 n1 h1) | ((with_reducible refine gate_dst (N := 14) rfl ?_); refine wpList_farith rfl rfl (by decide) rfl rfl ?_; intro r2 n2 h2) | ((with_reducible refine gate_dst (N := 15) rfl ?_); refine wpList_farith rfl rfl (by decide) rfl rfl ?_; intro r5 n5 h5) | ((with_reducible refine gate_dst (N := 20) rfl ?_); refine wpList_farith rfl rfl (by decide) rfl rfl ?_; intro r3 n3 h3) | ((with_reducible refine gate_dst (N := 25) rfl ?_); refine wpList_farith rfl rfl (by decide) rfl rfl ?_; intro r4 n4 h4) | ((with_reducible refine gate_dst (N := 26) rfl ?_); refine wpList_farith rfl rfl (by decide) rfl rfl ?_; intro r6 n6 h6))
  go_returns
  exact ⟨_, _, _, _, _, _, rfl, h1, h2, h3, h4, h5, h6, by repeat (first | (with_reducible first | exact Below.refl _ _ | exact HB | apply below_alloc | apply pw_below_drewN | apply below_drew1 | refine below_set ?_ (by omega)))⟩
set_option maxHeartbeats 8000000 in
set_option maxRecDepth 100000 in
theorem spec_SameSample.calls (x1 x2 y1 y2 : Nat) (w : World) : Calls Try.prog 12 #[.agg #[.float .f32 x1, .float .f32 x2], .agg #[.float .f32 y1, .float .f32 y2]] w fun e w' => e = .returned (.bool ((FloatKind.f32.format.order x1 y1 == some .eq) && (FloatKind.f32.format.order x2 y2 == some .eq))) ∧ Below w.heap.size w w' := by
  have hu22 := Try.underlying22
  have hu24 := Try.underlying24
  have hu26 := Try.underlying26
  have hu30 := Try.underlying30
  have hu32 := Try.underlying32
  have hu34 := Try.underlying34
  cases h1 : (FloatKind.f32.format.order x1 y1 == some .eq)
  · go_enter Try.func12, Try.ntmps12
    go_wp2
    go_returns
    exact ⟨rfl, by repeat (first | (with_reducible first | exact Below.refl _ _ | exact HB | apply below_alloc | apply pw_below_drewN | apply below_drew1 | refine below_set ?_ (by omega)))⟩
  · go_enter Try.func12, Try.ntmps12
    go_wp2
    go_returns
    exact ⟨rfl, by repeat (first | (with_reducible first | exact Below.refl _ _ | exact HB | apply below_alloc | apply pw_below_drewN | apply below_drew1 | refine below_set ?_ (by omega)))⟩
set_option maxHeartbeats 8000000 in
set_option maxRecDepth 100000 in
theorem impl_SameSample.calls (x1 x2 y1 y2 : Nat) (w : World) : Calls Try.prog 14 #[.agg #[.float .f32 x1, .float .f32 x2], .agg #[.float .f32 y1, .float .f32 y2]] w fun e w' => e = .returned (.bool ((FloatKind.f32.format.order x1 y1 == some .eq) && (FloatKind.f32.format.order x2 y2 == some .eq))) ∧ Below w.heap.size w w' := by
  have hu22 := Try.underlying22
  have hu24 := Try.underlying24
  have hu26 := Try.underlying26
  have hu30 := Try.underlying30
  have hu32 := Try.underlying32
  have hu34 := Try.underlying34
  cases h1 : (FloatKind.f32.format.order x1 y1 == some .eq)
  · go_enter Try.func14, Try.ntmps14
    go_wp2
    go_returns
    exact ⟨rfl, by repeat (first | (with_reducible first | exact Below.refl _ _ | exact HB | apply below_alloc | apply pw_below_drewN | apply below_drew1 | refine below_set ?_ (by omega)))⟩
  · go_enter Try.func14, Try.ntmps14
    go_wp2
    go_returns
    exact ⟨rfl, by repeat (first | (with_reducible first | exact Below.refl _ _ | exact HB | apply below_alloc | apply pw_below_drewN | apply below_drew1 | refine below_set ?_ (by omega)))⟩
theorem order_nan_l {k : FloatKind} {a : Nat} (b : Nat) (h : NaN k a) : k.format.order a b = none := by
  obtain ⟨s, t, e⟩ := nan_datum h
  unfold Ieee.Format.order
  rw [e]
  rfl
theorem order_self {k : FloatKind} {a : Nat} (h : ¬ NaN k a) : k.format.order a a = some .eq := by
  unfold Ieee.Format.order
  cases e : k.format.read a with
  | nan s t => exact absurd (by unfold NaN; rw [e]; rfl) h
  | infinity s => simp [Ieee.Datum.order, Std.ReflCmp.compare_self]
  | number s m p => simp [Ieee.Datum.order, Std.ReflCmp.compare_self]
set_option maxHeartbeats 8000000 in
set_option maxRecDepth 100000 in
theorem sameFloat.calls (a b : Nat) (h : Fl.Alike .f64 a b) (w : World) : Calls Try.prog 38 #[.float .f64 a, .float .f64 b] w fun e w' => e = .returned (.bool true) ∧ ∃ n, w' = w.drewN n := by
  have hu30 := Try.underlying30
  by_cases n : NaN .f64 a
  · have nb : NaN .f64 b := by
      rcases h with h | h
      · exact h.2
      · exact h ▸ n
    have o1 := order_nan_l a n
    have o2 := order_nan_l b nb
    go_enter Try.func38, Try.ntmps38
    go_wp2
    go_returns
    exact ⟨by first | rfl | (simp [o1, o2]; done), 0, rfl⟩
  · have e : a = b := by
      rcases h with h | h
      · exact absurd h.1 n
      · exact h
    subst e
    have o1 := order_self n
    by_cases z : FloatKind.f64.format.order a 0 = some .eq
    · go_enter Try.func38, Try.ntmps38
      go_wp2_with (first | ((with_reducible refine gate_dst (N := 28) rfl ?_); refine wpList_farith rfl rfl (by decide) rfl rfl ?_; intro r1 n1 h1) | ((with_reducible refine gate_dst (N := 31) rfl ?_); refine wpList_farith rfl rfl (by decide) rfl rfl ?_; intro r2 n2 h2))
      have hb : (FloatKind.f64.format.order r1 0 == some .gt) = (FloatKind.f64.format.order r2 0 == some .gt) := by
        rcases Res.alike (Alike.refl _ _) (Alike.refl _ _) h1 h2 with ⟨q1, q2⟩ | rfl
        · rw [order_nan_l _ q1, order_nan_l _ q2]
        · rfl
      go_returns
      exact ⟨by first | (simp [hb]; done) | rfl, _, rfl⟩
    · have z' : (FloatKind.f64.format.order a 0 == some .eq) = false := by simpa using z
      go_enter Try.func38, Try.ntmps38
      go_wp2
      go_returns
      exact ⟨by first | rfl | (simp [o1]; done), 0, rfl⟩
set_option maxHeartbeats 8000000 in
set_option maxRecDepth 100000 in
theorem eqSample.calls (x1 x2 y1 y2 : Nat) (h1 : Fl.Alike .f32 x1 y1) (h2 : Fl.Alike .f32 x2 y2) (w : World) : Calls Try.prog 17 #[.agg #[.float .f32 x1, .float .f32 x2], .agg #[.float .f32 y1, .float .f32 y2]] w fun e w' => e = .returned (.bool true) ∧ Below w.heap.size w w' := by
  have hu22 := Try.underlying22
  have hu24 := Try.underlying24
  have hu26 := Try.underlying26
  have hu30 := Try.underlying30
  have hu32 := Try.underlying32
  have hu34 := Try.underlying34
  go_enter Try.func17, Try.ntmps17
  go_wp2_with (first | ((with_reducible refine gate_dst (N := 7) rfl ?_); refine wpList_fconv rfl rfl Try.underlying22 Try.underlying30 rfl ?_; intro r1 n1 a1 b1 c1; have W1 := Aside0.mk (Wid.mk b1 c1); clear a1 b1 c1) | ((with_reducible refine gate_dst (N := 10) rfl ?_); refine wpList_fconv rfl rfl Try.underlying22 Try.underlying30 rfl ?_; intro r2 n2 a2 b2 c2; have W2 := Aside0.mk (Wid.mk b2 c2); clear a2 b2 c2) | ((with_reducible refine gate_dst (N := 15) rfl ?_); refine wpList_fconv rfl rfl Try.underlying22 Try.underlying30 rfl ?_; intro r3 n3 a3 b3 c3; have W3 := Aside0.mk (Wid.mk b3 c3); clear a3 b3 c3) | ((with_reducible refine gate_dst (N := 18) rfl ?_); refine wpList_fconv rfl rfl Try.underlying22 Try.underlying30 rfl ?_; intro r4 n4 a4 b4 c4; have W4 := Aside0.mk (Wid.mk b4 c4); clear a4 b4 c4) | (go_at_call 38; (with_reducible refine (sameFloat.calls r1 r2 (Wid.alike h1 W1.out W2.out) _).mono ?_); rintro e w1 ⟨rfl, m1, rfl⟩) | (go_at_call 38; (with_reducible refine (sameFloat.calls r3 r4 (Wid.alike h2 W3.out W4.out) _).mono ?_); rintro e w2 ⟨rfl, m2, rfl⟩))
  go_returns
  exact ⟨rfl, by repeat (first | (with_reducible first | exact Below.refl _ _ | exact HB | apply below_alloc | apply pw_below_drewN | apply below_drew1 | refine below_set ?_ (by omega)))⟩
set_option maxHeartbeats 8000000 in
set_option maxRecDepth 100000 in
theorem eqWide.calls (x1 x2 y1 y2 : Nat) (h1 : Fl.Alike .f64 x1 y1) (h2 : Fl.Alike .f64 x2 y2) (w : World) : Calls Try.prog 25 #[.agg #[.float .f64 x1, .float .f64 x2], .agg #[.float .f64 y1, .float .f64 y2]] w fun e w' => e = .returned (.bool true) ∧ Below w.heap.size w w' := by
  have hu22 := Try.underlying22
  have hu24 := Try.underlying24
  have hu26 := Try.underlying26
  have hu30 := Try.underlying30
  have hu32 := Try.underlying32
  have hu34 := Try.underlying34
  go_enter Try.func25, Try.ntmps25
  go_wp2_with (first | (go_at_call 38; (with_reducible refine (sameFloat.calls x1 y1 h1 _).mono ?_); rintro e w1 ⟨rfl, m1, rfl⟩) | (go_at_call 38; (with_reducible refine (sameFloat.calls x2 y2 h2 _).mono ?_); rintro e w2 ⟨rfl, m2, rfl⟩))
  go_returns
  exact ⟨rfl, by repeat (first | (with_reducible first | exact Below.refl _ _ | exact HB | apply below_alloc | apply pw_below_drewN | apply below_drew1 | refine below_set ?_ (by omega)))⟩
end Go.Proofs.Ytplhdplebbhakaa.Smp
