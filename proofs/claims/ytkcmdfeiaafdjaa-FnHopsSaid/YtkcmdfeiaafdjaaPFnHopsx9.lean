-- laid by a program of this session (wip/lay/lay.py); Lean checks it
import Derived.Test.YtkcmdfeiaafdjaaVFnHopsShort
import Derived.Test.YtkcmdfeiaafdjaaPFnHopsx0
import Derived.Test.YtkcmdfeiaafdjaaPFnHopsx1
import Derived.Test.YtkcmdfeiaafdjaaPFnHopsx8
namespace Go.Proofs.Ytkcmdfeiaafdjaa.PFnHops
-- squashed
open Go.RowKit Go.Proofs.YtkcmdfeiaafdjaaW.PrintWords Go.Proofs.YtkcmdfeiaafdjaaW.PrintLast Go.Proofs.YtkcmdfeiaafdjaaW.PrintMore Go.Proofs.Ytkcmdfeiaafdjaa.Short
attribute [local go_sem] max2_int min2_int max_two min_two max_three min_three max_four min_four   -- for this text's walks alone
set_option linter.unusedVariables false
set_option linter.unusedSimpArgs false

theorem cz9_ {w : World} {g : Nat} {t : TypeId} {cs : Array Value} {v : Value} (h : w.heap[g]? = some (.cells cs t (0, 0))) (i : Nat) (e : cs[i]? = some v) : w.cell? ⟨g, i, none⟩ = some v := (blk_cell h i).trans e
theorem nn9_ {a b : Nat} (h : a ≠ b) : a ≠ b ∧ b ≠ a := ⟨h, h.symm⟩
/-! ### spec_l7Draw: function 69 -/
mutual
def spec_l7Draw.l0 : Nat → Int → List (S43) → Int → List Int → Int → Int → Option ((List (S43)) × Int × Int)
 | 0, _, _, _, _, _, _ => none
 | k + 1, x1, x5, x6, x1000, x1001, x1002 => if x6 < x1 then ((spec_l1Once.f x1000 x1001 x1002 3).bind fun bt279 => ((spec_l1Once.f x1000 bt279.2.1 bt279.2.2 3).bind fun bt282 => ((spec_l1Below.f x1000 bt282.2.1 bt282.2.2 4).bind fun bt286 => (spec_l7Draw.l1 k x1 x5 x6 bt286.1 x1000 bt286.2.1 bt286.2.2 bt279.1 bt282.1 ([] : List (S45)))))) else (some (x5, x1001, x1002))
def spec_l7Draw.l1 : Nat → Int → List (S43) → Int → Int → List Int → Int → Int → Bool → Bool → List (S45) → Option ((List (S43)) × Int × Int)
 | 0, _, _, _, _, _, _, _, _, _, _ => none
 | k + 1, x1, x5, x6, x8, x1000, x1001, x1002, x286000, x286001, x286002 => if x8 > 0 then ((spec_l1PickInt.f x1000 x1001 x1002 (([1, 1, 2, 2, 3, 3, 4, 5, 5, 6, 7] : List Int))).bind fun bt295 => (if bt295.1 = 4 then ((spec_l1Once.f x1000 bt295.2.1 bt295.2.2 3).bind fun bt299 => (spec_l7Draw.j2 k x1 x5 x6 x8 (!bt299.1) x1000 bt299.2.1 bt299.2.2 x286000 x286001 x286002 bt295.1 0)) else (spec_l7Draw.j2 k x1 x5 x6 x8 false x1000 bt295.2.1 bt295.2.2 x286000 x286001 x286002 bt295.1 0))) else (if x5.length < 4398046511104 then (spec_l7Draw.l0 k x1 (x5 ++ [(⟨x286000, x286001, x286002⟩ : S43)]) (wrap64 (x6 + 1)) x1000 x1001 x1002) else (none))
def spec_l7Draw.j2 : Nat → Int → List (S43) → Int → Int → Bool → List Int → Int → Int → Bool → Bool → List (S45) → Int → Int → Option ((List (S43)) × Int × Int)
 | 0, _, _, _, _, _, _, _, _, _, _, _, _, _ => none
 | k + 1, x1, x5, x6, x8, x39, x1000, x1001, x1002, x286000, x286001, x286002, x299000, x299001 => if x39 = true then (spec_l7Draw.j3 k x1 x5 x6 x8 x1000 x1001 x1002 x286000 x286001 x286002 6 x299001) else (spec_l7Draw.j3 k x1 x5 x6 x8 x1000 x1001 x1002 x286000 x286001 x286002 x299000 x299001)
def spec_l7Draw.j3 : Nat → Int → List (S43) → Int → Int → List Int → Int → Int → Bool → Bool → List (S45) → Int → Int → Option ((List (S43)) × Int × Int)
 | 0, _, _, _, _, _, _, _, _, _, _, _, _ => none
 | k + 1, x1, x5, x6, x8, x1000, x1001, x1002, x286000, x286001, x286002, x299000, x299001 => (spec_l7Points.f x299000).bind fun t302 => (if t302 = true then ((spec_l1Below.f x1000 x1001 x1002 x1).bind fun bt303 => (spec_l7Draw.j4 k x1 x5 x6 x8 x1000 bt303.2.1 bt303.2.2 x286000 x286001 x286002 x299000 bt303.1)) else (spec_l7Draw.j4 k x1 x5 x6 x8 x1000 x1001 x1002 x286000 x286001 x286002 x299000 x299001))
def spec_l7Draw.j4 : Nat → Int → List (S43) → Int → Int → List Int → Int → Int → Bool → Bool → List (S45) → Int → Int → Option ((List (S43)) × Int × Int)
 | 0, _, _, _, _, _, _, _, _, _, _, _, _ => none
 | k + 1, x1, x5, x6, x8, x1000, x1001, x1002, x286000, x286001, x286002, x299000, x299001 => (some (([] : List (S45)) : List (S45))).bind fun y307 => (if y307.length + x286002.length < 8796093022208 then ((some (y307 ++ x286002 : List (S45))).bind fun y310 => ((some (([(⟨x299000, x299001⟩ : S45)] : List (S45)) : List (S45))).bind fun y313 => (if y310.length + y313.length < 8796093022208 then ((some (y310 ++ y313 : List (S45))).bind fun y316 => ((spec_l7Sub.f k x286000 x286001 y316 x1).bind fun t319 => (if t319 = true then (spec_l7Draw.l1 k x1 x5 x6 (wrap64 (x8 - 1)) x1000 x1001 x1002 x286000 x286001 y316) else (spec_l7Draw.l1 k x1 x5 x6 (wrap64 (x8 - 1)) x1000 x1001 x1002 x286000 x286001 x286002)))) else (none)))) else (none))
end
def spec_l7Draw.f (k : Nat) (s0_0 : List Int) (s0_1 : Int) (s0_2 : Int) (a1 : Int) : Option ((List (S43)) × Int × Int) := spec_l7Draw.l0 k a1 (([] : List (S43))) 0 s0_0 s0_1 s0_2
theorem spec_l7Draw.mono_l : ∀ k, (∀ y0 y1 y2 y3 y4 y5, LeO (spec_l7Draw.l0 k y0 y1 y2 y3 y4 y5) (spec_l7Draw.l0 (k + 1) y0 y1 y2 y3 y4 y5)) ∧ (∀ y0 y1 y2 y3 y4 y5 y6 y7 y8 y9, LeO (spec_l7Draw.l1 k y0 y1 y2 y3 y4 y5 y6 y7 y8 y9) (spec_l7Draw.l1 (k + 1) y0 y1 y2 y3 y4 y5 y6 y7 y8 y9)) ∧ (∀ y0 y1 y2 y3 y4 y5 y6 y7 y8 y9 y10 y11 y12, LeO (spec_l7Draw.j2 k y0 y1 y2 y3 y4 y5 y6 y7 y8 y9 y10 y11 y12) (spec_l7Draw.j2 (k + 1) y0 y1 y2 y3 y4 y5 y6 y7 y8 y9 y10 y11 y12)) ∧ (∀ y0 y1 y2 y3 y4 y5 y6 y7 y8 y9 y10 y11, LeO (spec_l7Draw.j3 k y0 y1 y2 y3 y4 y5 y6 y7 y8 y9 y10 y11) (spec_l7Draw.j3 (k + 1) y0 y1 y2 y3 y4 y5 y6 y7 y8 y9 y10 y11)) ∧ (∀ y0 y1 y2 y3 y4 y5 y6 y7 y8 y9 y10 y11, LeO (spec_l7Draw.j4 k y0 y1 y2 y3 y4 y5 y6 y7 y8 y9 y10 y11) (spec_l7Draw.j4 (k + 1) y0 y1 y2 y3 y4 y5 y6 y7 y8 y9 y10 y11))
 | 0 => ⟨fun _ _ _ _ _ _ r h => by simp [spec_l7Draw.l0] at h, fun _ _ _ _ _ _ _ _ _ _ r h => by simp [spec_l7Draw.l1] at h, fun _ _ _ _ _ _ _ _ _ _ _ _ _ r h => by simp [spec_l7Draw.j2] at h, fun _ _ _ _ _ _ _ _ _ _ _ _ r h => by simp [spec_l7Draw.j3] at h, fun _ _ _ _ _ _ _ _ _ _ _ _ r h => by simp [spec_l7Draw.j4] at h⟩
 | k + 1 => by
  obtain ⟨ih0, ih1, ih2, ih3, ih4⟩ := spec_l7Draw.mono_l k
  refine ⟨?_, ?_, ?_, ?_, ?_⟩
  ·intro y0 y1 y2 y3 y4 y5
   unfold spec_l7Draw.l0
   repeat' first
   | (with_reducible exact ih0 _ _ _ _ _ _)
   | (with_reducible exact ih1 _ _ _ _ _ _ _ _ _ _)
   | (with_reducible exact ih2 _ _ _ _ _ _ _ _ _ _ _ _ _)
   | (with_reducible exact ih3 _ _ _ _ _ _ _ _ _ _ _ _)
   | (with_reducible exact ih4 _ _ _ _ _ _ _ _ _ _ _ _)
   | (with_reducible exact spec_l7Sub.mono _ _ _ _ _)
   | (with_reducible exact LeO.refl _)
   | (with_reducible exact LeO.none _)
   | (with_reducible refine LeO.ite ?_ ?_)
   | (with_reducible refine LeO.bind ?_ (fun _ => ?_))
   | exact ih0 _ _ _ _ _ _
   | exact ih1 _ _ _ _ _ _ _ _ _ _
   | exact ih2 _ _ _ _ _ _ _ _ _ _ _ _ _
   | exact ih3 _ _ _ _ _ _ _ _ _ _ _ _
   | exact ih4 _ _ _ _ _ _ _ _ _ _ _ _
   | exact spec_l7Sub.mono _ _ _ _ _
   | exact LeO.none _
   | refine LeO.ite ?_ ?_
   | refine LeO.bind ?_ (fun _ => ?_)
  ·intro y0 y1 y2 y3 y4 y5 y6 y7 y8 y9
   unfold spec_l7Draw.l1
   repeat' first
   | (with_reducible exact ih0 _ _ _ _ _ _)
   | (with_reducible exact ih1 _ _ _ _ _ _ _ _ _ _)
   | (with_reducible exact ih2 _ _ _ _ _ _ _ _ _ _ _ _ _)
   | (with_reducible exact ih3 _ _ _ _ _ _ _ _ _ _ _ _)
   | (with_reducible exact ih4 _ _ _ _ _ _ _ _ _ _ _ _)
   | (with_reducible exact spec_l7Sub.mono _ _ _ _ _)
   | (with_reducible exact LeO.refl _)
   | (with_reducible exact LeO.none _)
   | (with_reducible refine LeO.ite ?_ ?_)
   | (with_reducible refine LeO.bind ?_ (fun _ => ?_))
   | exact ih0 _ _ _ _ _ _
   | exact ih1 _ _ _ _ _ _ _ _ _ _
   | exact ih2 _ _ _ _ _ _ _ _ _ _ _ _ _
   | exact ih3 _ _ _ _ _ _ _ _ _ _ _ _
   | exact ih4 _ _ _ _ _ _ _ _ _ _ _ _
   | exact spec_l7Sub.mono _ _ _ _ _
   | exact LeO.none _
   | refine LeO.ite ?_ ?_
   | refine LeO.bind ?_ (fun _ => ?_)
  ·intro y0 y1 y2 y3 y4 y5 y6 y7 y8 y9 y10 y11 y12
   unfold spec_l7Draw.j2
   repeat' first
   | (with_reducible exact ih0 _ _ _ _ _ _)
   | (with_reducible exact ih1 _ _ _ _ _ _ _ _ _ _)
   | (with_reducible exact ih2 _ _ _ _ _ _ _ _ _ _ _ _ _)
   | (with_reducible exact ih3 _ _ _ _ _ _ _ _ _ _ _ _)
   | (with_reducible exact ih4 _ _ _ _ _ _ _ _ _ _ _ _)
   | (with_reducible exact spec_l7Sub.mono _ _ _ _ _)
   | (with_reducible exact LeO.refl _)
   | (with_reducible exact LeO.none _)
   | (with_reducible refine LeO.ite ?_ ?_)
   | (with_reducible refine LeO.bind ?_ (fun _ => ?_))
   | exact ih0 _ _ _ _ _ _
   | exact ih1 _ _ _ _ _ _ _ _ _ _
   | exact ih2 _ _ _ _ _ _ _ _ _ _ _ _ _
   | exact ih3 _ _ _ _ _ _ _ _ _ _ _ _
   | exact ih4 _ _ _ _ _ _ _ _ _ _ _ _
   | exact spec_l7Sub.mono _ _ _ _ _
   | exact LeO.none _
   | refine LeO.ite ?_ ?_
   | refine LeO.bind ?_ (fun _ => ?_)
  ·intro y0 y1 y2 y3 y4 y5 y6 y7 y8 y9 y10 y11
   unfold spec_l7Draw.j3
   repeat' first
   | (with_reducible exact ih0 _ _ _ _ _ _)
   | (with_reducible exact ih1 _ _ _ _ _ _ _ _ _ _)
   | (with_reducible exact ih2 _ _ _ _ _ _ _ _ _ _ _ _ _)
   | (with_reducible exact ih3 _ _ _ _ _ _ _ _ _ _ _ _)
   | (with_reducible exact ih4 _ _ _ _ _ _ _ _ _ _ _ _)
   | (with_reducible exact spec_l7Sub.mono _ _ _ _ _)
   | (with_reducible exact LeO.refl _)
   | (with_reducible exact LeO.none _)
   | (with_reducible refine LeO.ite ?_ ?_)
   | (with_reducible refine LeO.bind ?_ (fun _ => ?_))
   | exact ih0 _ _ _ _ _ _
   | exact ih1 _ _ _ _ _ _ _ _ _ _
   | exact ih2 _ _ _ _ _ _ _ _ _ _ _ _ _
   | exact ih3 _ _ _ _ _ _ _ _ _ _ _ _
   | exact ih4 _ _ _ _ _ _ _ _ _ _ _ _
   | exact spec_l7Sub.mono _ _ _ _ _
   | exact LeO.none _
   | refine LeO.ite ?_ ?_
   | refine LeO.bind ?_ (fun _ => ?_)
  ·intro y0 y1 y2 y3 y4 y5 y6 y7 y8 y9 y10 y11
   unfold spec_l7Draw.j4
   repeat' first
   | (with_reducible exact ih0 _ _ _ _ _ _)
   | (with_reducible exact ih1 _ _ _ _ _ _ _ _ _ _)
   | (with_reducible exact ih2 _ _ _ _ _ _ _ _ _ _ _ _ _)
   | (with_reducible exact ih3 _ _ _ _ _ _ _ _ _ _ _ _)
   | (with_reducible exact ih4 _ _ _ _ _ _ _ _ _ _ _ _)
   | (with_reducible exact spec_l7Sub.mono _ _ _ _ _)
   | (with_reducible exact LeO.refl _)
   | (with_reducible exact LeO.none _)
   | (with_reducible refine LeO.ite ?_ ?_)
   | (with_reducible refine LeO.bind ?_ (fun _ => ?_))
   | exact ih0 _ _ _ _ _ _
   | exact ih1 _ _ _ _ _ _ _ _ _ _
   | exact ih2 _ _ _ _ _ _ _ _ _ _ _ _ _
   | exact ih3 _ _ _ _ _ _ _ _ _ _ _ _
   | exact ih4 _ _ _ _ _ _ _ _ _ _ _ _
   | exact spec_l7Sub.mono _ _ _ _ _
   | exact LeO.none _
   | refine LeO.ite ?_ ?_
   | refine LeO.bind ?_ (fun _ => ?_)
theorem spec_l7Draw.mono : ∀ a0 a1 a2 a3 k, LeO (spec_l7Draw.f k a0 a1 a2 a3) (spec_l7Draw.f (k + 1) a0 a1 a2 a3) := by
 intro a0 a1 a2 a3 k
 obtain ⟨ih0, ih1, ih2, ih3, ih4⟩ := spec_l7Draw.mono_l k
 unfold spec_l7Draw.f
 repeat' first
   | (with_reducible exact ih0 _ _ _ _ _ _)
   | (with_reducible exact ih1 _ _ _ _ _ _ _ _ _ _)
   | (with_reducible exact ih2 _ _ _ _ _ _ _ _ _ _ _ _ _)
   | (with_reducible exact ih3 _ _ _ _ _ _ _ _ _ _ _ _)
   | (with_reducible exact ih4 _ _ _ _ _ _ _ _ _ _ _ _)
   | (with_reducible exact spec_l7Sub.mono _ _ _ _ _)
   | (with_reducible exact LeO.refl _)
   | (with_reducible exact LeO.none _)
   | (with_reducible refine LeO.ite ?_ ?_)
   | (with_reducible refine LeO.bind ?_ (fun _ => ?_))
   | exact ih0 _ _ _ _ _ _
   | exact ih1 _ _ _ _ _ _ _ _ _ _
   | exact ih2 _ _ _ _ _ _ _ _ _ _ _ _ _
   | exact ih3 _ _ _ _ _ _ _ _ _ _ _ _
   | exact ih4 _ _ _ _ _ _ _ _ _ _ _ _
   | exact spec_l7Sub.mono _ _ _ _ _
   | exact LeO.none _
   | refine LeO.ite ?_ ?_
   | refine LeO.bind ?_ (fun _ => ?_)
def spec_l7Draw.T15 : Bool × List (List Nat × List Nat) := (true, [([], []), ([], []), ([1], [1]), ([0, 2], [0, 2]), ([], []), ([4], [4]), ([3, 5, 3], [3, 5]), ([0, 1, 2, 3, 4, 5, 6], []), ([7, 6, 6, 0, 1, 2, 3, 4, 5, 6], [6, 7])])
def spec_l7Draw.B15 : List Nat := [0, 0, 2, 7, 0, 16, 63, 127, 255]
theorem spec_l7Draw.tab15 : rtab .any (opsOf Try.f69 15) = spec_l7Draw.T15 := by kernel_rfl
theorem spec_l7Draw.bits15 : waitsOk spec_l7Draw.T15.2 spec_l7Draw.B15 = true := by kernel_rfl
set_option maxHeartbeats 8000000 in
set_option maxRecDepth 100000 in
theorem spec_l7Draw.calls (k : Nat) (g : Nat) (s0_0 : List Int) (s0_1 : Int) (s0_2 : Int) (a1 : Int) (r1 : List (S43)) (r2 : Int) (r3 : Int) (w0 w : World) (hI : IsS98 w0 w g s0_0 s0_1 s0_2) (hB : Below w0.heap.size w0 w) (h : spec_l7Draw.f k s0_0 s0_1 s0_2 a1 = some (r1, r2, r3)) :
  Calls Try.prog 69 #[.pointer (some ⟨g, 0, none⟩), .int .i64 a1] w fun e w' => ∃ v0_ : Value, e = .returned (v0_) ∧ Kd.S k43 43 w' w.heap.size (fun _ => True) v0_ r1 ∧ IsS98 w0 w' g s0_0 r2 r3 ∧ Below w0.heap.size w0 w' ∧ KeepBut w w' g none := by
 have hu43 := Try.underlying43; have hu45 := Try.underlying45; have HI0 := Aside0.mk hI; have HK := Aside0.mk (KeepBut.refl w g none); have HL := Aside0.mk hB.size; clear hI; have HW0 := Aside0.mk hB.size; have HB := Aside0.mk hB; clear hB; have H : (spec_l7Draw.l0 k a1 (([] : List (S43))) 0 s0_0 s0_1 s0_2) = some (r1, r2, r3) := h; clear h; obtain ⟨y276, hy276⟩ : ∃ y_ : List (S43), y_ = (([] : List (S43))) := ⟨_, rfl⟩
 replace H : (spec_l7Draw.l0 k a1 y276 0 s0_0 s0_1 s0_2) = some (r1, r2, r3) := by first | (rw [hy276]; with_reducible exact H) | (have H2_ := (Option.bind_some _ _).symm.trans H; rw [hy276]; with_reducible exact H2_) | (have H2_ := (Option.bind_some _ _).symm.trans H; with_reducible exact H2_) | with_reducible exact H | (rw [hy276]; exact H) | exact H
 have Ny276 := Aside0.mk hy276; clear hy276
 have H' := Aside0.mk H
 clear H
 go_enter Try.func69, Try.ntmps69
 go_wp2_with (first | ((with_reducible refine gate_dst (N := 11) rfl ?_); refine Kd.S_lit k43 _ 43 ?hg (N := 11) ?hd (xs := ([] : List (S43))) (inner := []) (ok := fun _ => True) (okp := fun _ => True) ?hr ?hp (fun _ hk => hk) trivial (Below.refl _ _) (Nat.le_refl _) (by simp) ?_; (case hd => rfl); (case hg => rfl); (case hr => first | (go_simp; done) | (go_simp; rfl)); (case hp => exact (Reps.none _ _)); intro v277 w3 ho4 hb hg_ hnew_; clear hg_ hnew_; (first | rw [← Ny276.out] at ho4 | (simp only [Int.reduceToNat] at ho4; rw [← Ny276.out] at ho4)); have n0_ := Aside0.mk (Kd.S_lower ho4 (keep_size (w := w) (g := g) (row := none) (kA_ HK.out))); have n1_ := Aside0.mk (IsS98.below isAll hb); have n2_ := Aside0.mk (KeepBut.trans (kA_ HK.out) (KeepBut.of_below hb g none) (.inl rfl)); have n3_ := Aside0.mk (below_step belowAll hb); clear HI0; clear HK; clear HB; have HO278 := n0_; have HI0 := n1_; have HK := n2_; have HB := n3_; clear n0_ n1_ n2_ n3_; clear hb ho4))
 go_loopg [5, 6] k (fun kq v5 v6 w' => ∃ (x5_1 : List (S43)) (x6_1 : Int) (x1001_1 : Int) (x1002_1 : Int), v6 = .int .i64 x6_1 ∧ Aside0 (spec_l7Draw.l0 kq a1 x5_1 x6_1 s0_0 x1001_1 x1002_1 = some (r1, r2, r3)) ∧ Aside0 (kq ≤ k) ∧ Aside0 (Kd.S k43 43 w' w.heap.size (fun _ => True) v5 x5_1) ∧ Aside0 (IsS98 w0 w' g s0_0 x1001_1 x1002_1) ∧ Aside0 (KeepBut w w' g none) ∧ Aside0 (Below w0.heap.size w0 w'))
 case atStart => exact ⟨(y276), (0), (s0_1), (s0_2), (by first | rfl | (simp; done) | (simp [*]; done)), H', ⟨Nat.le_refl _⟩, ⟨by (with_reducible repeat (first | apply Kd.S_alloc | apply Kd.S_drewN | apply Kd.S_drew)); exact HO278.out⟩, ⟨by exact isAll⟩, ⟨by exact (kA_ HK.out)⟩, ⟨by exact belowAll⟩⟩
 case round =>
  clear H'
  (try clear p2); obtain ⟨x5_1, x6_1, x1001_1, x1002_1, rfl, HA, HK1, HO_5, HI0, HK, HB⟩ := hrel
  cases gk with
  | zero => exact absurd HA.out (by simp [spec_l7Draw.l0])
  | succ k1 =>
   have H := HA.out; clear HA; simp only [spec_l7Draw.l0] at H
   by_cases c5 : x6_1 < a1
   case neg =>
    rw [if_neg c5] at H; have c5b0 : decide (x6_1 < a1) = false := decide_eq_false c5; clear c5; simp only [Option.some.injEq, Prod.mk.injEq] at H; obtain ⟨rfl, rfl, rfl⟩ := H
    go_wp2
    go_ret
    exact ⟨_, by first | rfl | (simp [errW_none, errW_some] <;> rfl) | (simp [*, errW_none, errW_some] <;> rfl), by (with_reducible repeat (first | apply Kd.S_alloc | apply Kd.S_drewN | apply Kd.S_drew)); exact HO_5.out, by exact isAll, by exact belowAll, by exact (kA_ HK.out)⟩

   rw [if_pos c5] at H; have c5b0 : decide (x6_1 < a1) = true := decide_eq_true c5; clear c5; replace H := Option.bind_eq_some_iff.mp H; obtain ⟨⟨t279, t280, t281⟩, A60, H⟩ := H
   replace H : ((spec_l1Once.f s0_0 t280 t281 3).bind fun bt282 => ((spec_l1Below.f s0_0 bt282.2.1 bt282.2.2 4).bind fun bt286 => (spec_l7Draw.l1 k1 a1 x5_1 x6_1 bt286.1 s0_0 bt286.2.1 bt286.2.2 t279 bt282.1 ([] : List (S45))))) = some (r1, r2, r3) := H
   have A6 := Aside0.mk A60; clear A60; replace H := Option.bind_eq_some_iff.mp H; obtain ⟨⟨t282, t283, t284⟩, A70, H⟩ := H
   replace H : ((spec_l1Below.f s0_0 t283 t284 4).bind fun bt286 => (spec_l7Draw.l1 k1 a1 x5_1 x6_1 bt286.1 s0_0 bt286.2.1 bt286.2.2 t279 t282 ([] : List (S45)))) = some (r1, r2, r3) := H
   have A7 := Aside0.mk A70; clear A70; replace H := Option.bind_eq_some_iff.mp H; obtain ⟨⟨t286, t287, t288⟩, A80, H⟩ := H
   replace H : (spec_l7Draw.l1 k1 a1 x5_1 x6_1 t286 s0_0 t287 t288 t279 t282 ([] : List (S45))) = some (r1, r2, r3) := H
   have A8 := Aside0.mk A80; clear A80
   have H' := Aside0.mk H
   clear H
   go_wp2_with (first | ((with_reducible refine gate_callee (f := 79) rfl ?_); refine goesL_ (some 18) rfl rfl Try.func79 (by kernel_rfl) rfl #[.pointer (some ⟨g, 0, none⟩), .int .i64 3] rfl (by (try simp only [List.map_toArray, List.map_cons, List.map_nil]); first | done | rfl | (simp only [List.length_drop, List.length_take]; rfl)) ?_; (with_reducible refine (spec_l1Once.calls g s0_0 x1001_1 x1002_1 3 t279 t280 t281 w0 _ ?side1 ?side2 A6.out).mono ?_); (case side1 => repeat (first | (with_reducible first | exact HI0.out | apply IsS98.alloc | apply IsS98.drewN | apply IsS98.drew | apply IsS98.set_1 | apply IsS98.set_2) | exact HI0.out)); (case side2 => repeat (first | (with_reducible first | exact HB.out | apply below_alloc | apply pw_below_drewN | apply below_drew1 | refine below_set ?_ (IsS98.ge HI0.out)) | exact HB.out)); rintro e w9 ⟨rfl, hi, hb, hk⟩; refine ⟨_, rfl, ?_⟩; replace HO_5 := Aside0.mk (Kd.S_mono (Kd.S_keep (IsS98.apartS (show IsS98 w0 _ g s0_0 x1001_1 x1002_1 from by exact isAll) (pS_ HO_5.out) (by decide)) hk (fun _ h => h.2)) (fun _ h => h.1)); replace HK := Aside0.mk (KeepBut.trans (kA_ HK.out) hk (.inl rfl)); replace HB := Aside0.mk (hb); replace HI0 := Aside0.mk (hi); (try clear hb); (try clear hb2); (try clear hk); (try clear hi)) | ((with_reducible refine gate_callee (f := 79) rfl ?_); refine goesL_ (some 20) rfl rfl Try.func79 (by kernel_rfl) rfl #[.pointer (some ⟨g, 0, none⟩), .int .i64 3] rfl (by (try simp only [List.map_toArray, List.map_cons, List.map_nil]); first | done | rfl | (simp only [List.length_drop, List.length_take]; rfl)) ?_; (with_reducible refine (spec_l1Once.calls g s0_0 t280 t281 3 t282 t283 t284 w0 _ ?side1 ?side2 A7.out).mono ?_); (case side1 => repeat (first | (with_reducible first | exact HI0.out | apply IsS98.alloc | apply IsS98.drewN | apply IsS98.drew | apply IsS98.set_1 | apply IsS98.set_2) | exact HI0.out)); (case side2 => repeat (first | (with_reducible first | exact HB.out | apply below_alloc | apply pw_below_drewN | apply below_drew1 | refine below_set ?_ (IsS98.ge HI0.out)) | exact HB.out)); rintro e w10 ⟨rfl, hi, hb, hk⟩; refine ⟨_, rfl, ?_⟩; replace HO_5 := Aside0.mk (Kd.S_mono (Kd.S_keep (IsS98.apartS (show IsS98 w0 _ g s0_0 t280 t281 from by exact isAll) (pS_ HO_5.out) (by decide)) hk (fun _ h => h.2)) (fun _ h => h.1)); replace HK := Aside0.mk (KeepBut.trans (kA_ HK.out) hk (.inl rfl)); replace HB := Aside0.mk (hb); replace HI0 := Aside0.mk (hi); (try clear hb); (try clear hb2); (try clear hk); (try clear hi)) | ((with_reducible refine gate_dst (N := 7) rfl ?_); refine box_event ?hg (N := 7) ?hd (cs := #[.bool false, .bool false, .slice none 0 0]) (t := 43) ?hr ?_; (case hd => rfl); (case hg => rfl); (case hr => first | (go_simp; done) | (go_simp; rfl)); intro gb285 hg w11 hbox hb; have n0_ := Aside0.mk (Kd.S_below (Kd.S_elderB (pS_ HO_5.out) gb285 (Nat.le_of_eq hg.symm)) hb); have n1_ := Aside0.mk (IsS98.below isAll hb); have n2_ := Aside0.mk (KeepBut.trans (kA_ HK.out) (KeepBut.of_below hb g none) (.inl rfl)); have n3_ := Aside0.mk (below_step belowAll hb); have n4_ := Aside0.mk (hbox); have n5_ := Aside0.mk ((by rw [hg]; exact (keep_size (w := w) (g := g) (row := none) (kA_ HK.out)) : w.heap.size ≤ gb285)); have n6_ := Aside0.mk ((Nat.le_trans HW0.out (by rw [hg]; exact (keep_size (w := w) (g := g) (row := none) (kA_ HK.out)) : w.heap.size ≤ gb285) : w0.heap.size ≤ gb285)); have n7_ := Aside0.mk ((by rw [hg]; exact Nat.ne_of_lt (IsS98.lt (show IsS98 w0 _ g s0_0 t283 t284 from by exact isAll)) : g ≠ gb285)); have n8_ := Aside0.mk ((by rw [hg]; exact Nat.ne_of_gt (IsS98.lt (show IsS98 w0 _ g s0_0 t283 t284 from by exact isAll)) : gb285 ≠ g)); clear HO_5; clear HI0; clear HK; clear HB; have HO_5 := n0_; have HI0 := n1_; have HK := n2_; have HB := n3_; have BK285 := n4_; have GW285 := n5_; have GE285 := n6_; have NB0_285 := n7_; have NB285_0 := n8_; clear n0_ n1_ n2_ n3_ n4_ n5_ n6_ n7_ n8_; clear hb hbox hg; have ⟨hnb12, hnc12⟩ := nn9_ NB285_0.out; have hcz13_0 := cz9_ BK285.out 0 rfl; have hcz13_1 := cz9_ BK285.out 1 rfl; have hcz13_2 := cz9_ BK285.out 2 rfl; have hfz13_0 := blk_frozen BK285.out 0; have hfz13_1 := blk_frozen BK285.out 1; have hfz13_2 := blk_frozen BK285.out 2) | ((with_reducible refine gate_callee (f := 49) rfl ?_); refine goesL_ (some 23) rfl rfl Try.func49 (by kernel_rfl) rfl #[.pointer (some ⟨g, 0, none⟩), .int .i64 4] rfl (by (try simp only [List.map_toArray, List.map_cons, List.map_nil]); first | done | rfl | (simp only [List.length_drop, List.length_take]; rfl)) ?_; (with_reducible refine (spec_l1Below.calls g s0_0 t283 t284 4 t286 t287 t288 w0 _ ?side1 ?side2 A8.out).mono ?_); (case side1 => repeat (first | (with_reducible first | exact HI0.out | apply IsS98.alloc | apply IsS98.drewN | apply IsS98.drew | apply IsS98.set_1 | apply IsS98.set_2 | refine IsS98.far ?_ NB0_285.out _) | exact HI0.out)); (case side2 => repeat (first | (with_reducible first | exact HB.out | apply below_alloc | apply pw_below_drewN | apply below_drew1 | refine below_set ?_ (IsS98.ge HI0.out) | refine below_set ?_ GE285.out) | exact HB.out)); rintro e w14 ⟨rfl, hi, hb, hk⟩; refine ⟨_, rfl, ?_⟩; replace HO_5 := Aside0.mk (Kd.S_mono (Kd.S_keep (IsS98.apartS (show IsS98 w0 _ g s0_0 t283 t284 from by exact isAll) (by (with_reducible repeat (first | apply Kd.S_alloc | apply Kd.S_drewN | apply Kd.S_drew)); exact (Kd.S_mono (Kd.S_far (p := ⟨gb285, 2, none⟩) (Kd.S_far (p := ⟨gb285, 1, none⟩) (Kd.S_far (p := ⟨gb285, 0, none⟩) (Kd.S_mono HO_5.out (fun k_ hk => (⟨hk, hk.2⟩ : _ ∧ k_ ≠ gb285))) (fun _ hk => hk.2) (.bool t279)) (fun _ hk => hk.2) (.bool t282)) (fun _ hk => hk.2) (.slice none 0 0)) (fun _ h_ => h_.1))) (by decide)) hk (fun _ h => h.2)) (fun _ h => h.1)); replace BK285 := Aside0.mk (KeepBut.blk hk (g' := gb285) (o := .cells #[.bool t279, .bool t282, .slice none 0 0] 43 (0, 0)) (by (with_reducible repeat (first | refine blk_drewN ?_ _ | refine blk_drew ?_ | refine blk_alloc ?_ _)); refine blk_put (cs := #[.bool t279, .bool t282, .slice none 0 0]) ?_ 2 _ rfl; (with_reducible repeat (first | refine blk_drewN ?_ _ | refine blk_drew ?_ | refine blk_alloc ?_ _)); refine blk_put (cs := #[.bool t279, .bool false, .slice none 0 0]) ?_ 1 _ rfl; (with_reducible repeat (first | refine blk_drewN ?_ _ | refine blk_drew ?_ | refine blk_alloc ?_ _)); refine blk_put (cs := #[.bool false, .bool false, .slice none 0 0]) ?_ 0 _ rfl; (with_reducible repeat (first | refine blk_drewN ?_ _ | refine blk_drew ?_ | refine blk_alloc ?_ _)); exact BK285.out) NB285_0.out (by simp)); replace HK := Aside0.mk (KeepBut.trans (kA_ HK.out) hk (.inl rfl)); replace HB := Aside0.mk (hb); replace HI0 := Aside0.mk (hi); (try clear hb); (try clear hb2); (try clear hk); (try clear hi)))
   go_loopg [8] k1 (fun kq v8 w' => ∃ (x8_2 : Int) (x1001_2 : Int) (x1002_2 : Int) (x286000_2 : Bool) (x286001_2 : Bool) (x286002_2 : List (S45)) (u286002 : Value), v8 = .int .i64 x8_2 ∧ Aside0 (spec_l7Draw.l1 kq a1 x5_1 x6_1 x8_2 s0_0 x1001_2 x1002_2 x286000_2 x286001_2 x286002_2 = some (r1, r2, r3)) ∧ Aside0 (kq ≤ k1) ∧ Aside0 (Kd.S k43 43 w' w.heap.size (fun k_ => some k_ ≠ (u286002 : Value).ownBlock ∧ k_ ≠ gb285) u5 x5_1) ∧ Aside0 (Kd.R k45 45 w' w.heap.size (fun _ => True) u286002 x286002_2) ∧ Aside0 (w'.heap[gb285]? = some (.cells #[.bool x286000_2, .bool x286001_2, u286002] 43 (0, 0))) ∧ Aside0 (IsS98 w0 w' g s0_0 x1001_2 x1002_2) ∧ Aside0 (KeepBut w w' g none) ∧ Aside0 (Below w0.heap.size w0 w'))
   case atStart => exact ⟨(t286), (t287), (t288), (t279), (t282), (([] : List (S45))), (.slice none 0 0), (by first | rfl | (simp; done) | (simp [*]; done)), H', ⟨Nat.le_refl _⟩, ⟨by (with_reducible repeat (first | apply Kd.S_alloc | apply Kd.S_drewN | apply Kd.S_drew)); exact Kd.S_mono HO_5.out (fun _ hk => ⟨(by simp [Value.ownBlock]), hk.2⟩)⟩, ⟨by first | exact Kd.R_nil _ _ _ _ _ | exact Kd.N_nil _ _ _ _ _ | exact Kd.V_nil _ _ _ _ _ | exact Kd.Q_nil _ _ _ _ _ | exact Kd.S_nil _ _ _ _ _⟩, ⟨by (with_reducible repeat (first | refine blk_drewN ?_ _ | refine blk_drew ?_ | refine blk_alloc ?_ _)); exact BK285.out⟩, ⟨by exact isAll⟩, ⟨by exact (kA_ HK.out)⟩, ⟨by exact belowAll⟩⟩
   case round =>
    clear H'
    (try clear c1); (try clear p2); (try clear c4); (try clear c5); (try clear c5b0); (try clear c6); (try clear c7); (try clear c12); (try clear hcz13_0 hcz13_1 hcz13_2 hfz13_0 hfz13_1 hfz13_2); (try clear p2); obtain ⟨x8_2, x1001_2, x1002_2, x286000_2, x286001_2, x286002_2, u286002, rfl, HA, HK2, HO_5, HO_286002, BK285, HI0, HK, HB⟩ := hrel
    cases gk with
    | zero => exact absurd HA.out (by simp [spec_l7Draw.l1])
    | succ k2 =>
     have H := HA.out; clear HA; simp only [spec_l7Draw.l1] at H
     by_cases c15 : x8_2 > 0
     case neg =>
      rw [if_neg c15] at H; have c15b0 : decide (0 < x8_2) = false := decide_eq_false c15; clear c15
      by_cases c103 : x5_1.length < 4398046511104
      case neg =>
       rw [if_neg c103] at H
       exact absurd H (by simp)
      rw [if_pos c103] at H; have LMc103 := Aside0.mk c103; clear c103; obtain ⟨y289, hy289⟩ : ∃ y_ : List (S43), y_ = (x5_1 ++ [(⟨x286000_2, x286001_2, x286002_2⟩ : S43)]) := ⟨_, rfl⟩
      replace H : (spec_l7Draw.l0 k2 a1 y289 (wrap64 (x6_1 + 1)) s0_0 x1001_2 x1002_2) = some (r1, r2, r3) := by first | (rw [hy289]; with_reducible exact H) | (have H2_ := (Option.bind_some _ _).symm.trans H; rw [hy289]; with_reducible exact H2_) | (have H2_ := (Option.bind_some _ _).symm.trans H; with_reducible exact H2_) | with_reducible exact H | (rw [hy289]; exact H) | exact H
      have Ny289 := Aside0.mk hy289; clear hy289
      have H' := Aside0.mk H
      clear H; have ⟨hnb104, hnc104⟩ := nn9_ NB285_0.out; have hcz105_0 := cz9_ BK285.out 0 rfl; have hcz105_1 := cz9_ BK285.out 1 rfl; have hcz105_2 := cz9_ BK285.out 2 rfl; have hfz105_0 := blk_frozen BK285.out 0; have hfz105_1 := blk_frozen BK285.out 1; have hfz105_2 := blk_frozen BK285.out 2; obtain ⟨Ao107, co107, eo107⟩ := Kd.R_slice HO_286002.out; subst eo107
      go_wp2_with (first | ((with_reducible refine gate_builtin (b := .append) (xs := #[.tmp 61, .tmp 63]) rfl ?_); at_builtin; refine Kd.S_append k43 w.heap.size rfl (.tmp 61) (.tmp 63) 28 43 (.agg #[(.bool false), (.bool false), (.slice none 0 0)]) 32 rfl Try.underlying28 info43 rfl (by decide) (by omega) u5 x5_1 (⟨x286000_2, x286001_2, x286002_2⟩ : S43) [.bool x286000_2, .bool x286001_2, .slice Ao107 x286002_2.length co107] (fun k_ => k_ ≠ gb285) (fun k_ => some k_ = (.slice Ao107 x286002_2.length co107 : Value).ownBlock) rfl rfl ?aP (fun k_ hk_ => ((Kd.R_mono (ok' := fun k_ => ((fun k_ => k_ ≠ gb285)) k_ ∧ some k_ ≠ (u5 : Value).ownBlock) (Kd.R_types (Kd.R_apart' (HO_286002.out) (Kd.S_typed HO_5.out) (by decide)) BK285.out (by decide)) (fun k_ hk => ⟨hk.2, hk.1.2⟩))).1 k_ hk_.symm) ?aF ?aO (Below.refl _ _) ?aS ?aL ?_; (case aP => exact k43_mkM _ _ _ (⟨x286000_2, x286001_2, x286002_2⟩ : S43) (Kd.R_mono (Kd.R_tight rfl (Kd.R_mono (ok' := fun k_ => ((fun k_ => k_ ≠ gb285)) k_ ∧ some k_ ≠ (u5 : Value).ownBlock) (Kd.R_types (Kd.R_apart' (HO_286002.out) (Kd.S_typed HO_5.out) (by decide)) BK285.out (by decide)) (fun k_ hk => ⟨hk.2, hk.1.2⟩))) (fun _ h_ => h_))); (case aF => exact (fun k_ hk => Kd.freshB (g := gb285) (o := .cells #[.bool x286000_2, .bool x286001_2, .slice Ao107 x286002_2.length co107] 43 (0, 0)) blkNow k_ hk)); (case aO => exact (by (with_reducible repeat (first | apply Kd.S_alloc | apply Kd.S_drewN | apply Kd.S_drew)); exact Kd.S_mono HO_5.out (fun k_ hk => ⟨hk.2, fun e_ => hk.1 e_⟩))); (case aS => exact (keep_size (w := w) (g := g) (row := none) (kA_ HK.out))); (case aL => have := LMc103.out; omega); intro v290 w106 ho hb hg hat; rw [← Ny289.out] at ho; have n0_ := Aside0.mk (blk_grown (g := gb285) (o := .cells #[.bool x286000_2, .bool x286001_2, .slice Ao107 x286002_2.length co107] 43 (0, 0)) blkNow hg (Kd.S_away HO_5.out (fun _ hk => hk.2))); have n1_ := Aside0.mk (IsS98.grown isAll hg (IsS98.own_neS HI0.out HO_5.out (by decide))); have n2_ := Aside0.mk (below_weaken (by exact belowAll) HL.out hb); have n3_ := Aside0.mk (KeepBut.trans (kA_ HK.out) (KeepBut.of_grown hg g) (Kd.S_base2 HO_5.out)); have n4_ := Aside0.mk (ho); clear BK285; clear HI0; clear HB; clear HK; clear HO_5; clear HO_286002; have BK285 := n0_; have HI0 := n1_; have HB := n2_; have HK := n3_; have HO291 := n4_; clear n0_ n1_ n2_ n3_ n4_; clear ho hb hg hat))
      go_roundg k2
      case measure => have := HK1.out; have := HK2.out; omega
      case rel => exact ⟨(y289), (wrap64 (x6_1 + 1)), (x1001_2), (x1002_2), (by first | rfl | (simp; done) | (simp [*]; done)), H', ⟨by have := HK1.out; have := HK2.out; omega⟩, ⟨by (with_reducible repeat (first | apply Kd.S_alloc | apply Kd.S_drewN | apply Kd.S_drew)); exact Kd.S_mono HO291.out (fun _ hk => trivial)⟩, ⟨by exact isAll⟩, ⟨by exact (kA_ HK.out)⟩, ⟨by exact belowAll⟩⟩
     rw [if_pos c15] at H; have c15b0 : decide (0 < x8_2) = true := decide_eq_true c15; clear c15; obtain ⟨y292, hy292⟩ : ∃ y_ : List Int, y_ = (([1, 1, 2, 2, 3, 3, 4, 5, 5, 6, 7] : List Int)) := ⟨_, rfl⟩
     replace H : ((spec_l1PickInt.f s0_0 x1001_2 x1002_2 y292).bind fun bt295 => (if bt295.1 = 4 then ((spec_l1Once.f s0_0 bt295.2.1 bt295.2.2 3).bind fun bt299 => (spec_l7Draw.j2 k2 a1 x5_1 x6_1 x8_2 (!bt299.1) s0_0 bt299.2.1 bt299.2.2 x286000_2 x286001_2 x286002_2 bt295.1 0)) else (spec_l7Draw.j2 k2 a1 x5_1 x6_1 x8_2 false s0_0 bt295.2.1 bt295.2.2 x286000_2 x286001_2 x286002_2 bt295.1 0))) = some (r1, r2, r3) := by first | (rw [hy292]; with_reducible exact H) | (have H2_ := (Option.bind_some _ _).symm.trans H; rw [hy292]; with_reducible exact H2_) | (have H2_ := (Option.bind_some _ _).symm.trans H; with_reducible exact H2_) | with_reducible exact H | (rw [hy292]; exact H) | exact H
     have Ny292 := Aside0.mk hy292; clear hy292; replace H := Option.bind_eq_some_iff.mp H; obtain ⟨⟨t295, t296, t297⟩, A160, H⟩ := H
     replace H : (if t295 = 4 then ((spec_l1Once.f s0_0 t296 t297 3).bind fun bt299 => (spec_l7Draw.j2 k2 a1 x5_1 x6_1 x8_2 (!bt299.1) s0_0 bt299.2.1 bt299.2.2 x286000_2 x286001_2 x286002_2 t295 0)) else (spec_l7Draw.j2 k2 a1 x5_1 x6_1 x8_2 false s0_0 t296 t297 x286000_2 x286001_2 x286002_2 t295 0)) = some (r1, r2, r3) := H
     have A16 := Aside0.mk A160; clear A160; have HC17 := Aside0.mk H; clear H
     go_upto_region 10 with (first | ((with_reducible refine gate_dst (N := 29) rfl ?_); refine Kd.R_lit (Kd.int .i64) _ 3 ?hg (N := 29) ?hd (xs := ([1, 1, 2, 2, 3, 3, 4, 5, 5, 6, 7] : List Int)) (inner := [.int .i64 1, .int .i64 1, .int .i64 2, .int .i64 2, .int .i64 3, .int .i64 3, .int .i64 4, .int .i64 5, .int .i64 5, .int .i64 6, .int .i64 7]) (ok := fun _ => True) (okp := fun _ => True) ?hr ?hp (fun _ hk => hk) trivial (Below.refl _ _) (Nat.le_refl _) (by simp) ?_; (case hd => rfl); (case hg => rfl); (case hr => first | (go_simp; done) | (go_simp; rfl)); (case hp => exact (Reps.one (show Kd.M (Kd.int .i64) _ _ _ 1 [.int .i64 1] from rfl) (Reps.one (show Kd.M (Kd.int .i64) _ _ _ 1 [.int .i64 1] from rfl) (Reps.one (show Kd.M (Kd.int .i64) _ _ _ 2 [.int .i64 2] from rfl) (Reps.one (show Kd.M (Kd.int .i64) _ _ _ 2 [.int .i64 2] from rfl) (Reps.one (show Kd.M (Kd.int .i64) _ _ _ 3 [.int .i64 3] from rfl) (Reps.one (show Kd.M (Kd.int .i64) _ _ _ 3 [.int .i64 3] from rfl) (Reps.one (show Kd.M (Kd.int .i64) _ _ _ 4 [.int .i64 4] from rfl) (Reps.one (show Kd.M (Kd.int .i64) _ _ _ 5 [.int .i64 5] from rfl) (Reps.one (show Kd.M (Kd.int .i64) _ _ _ 5 [.int .i64 5] from rfl) (Reps.one (show Kd.M (Kd.int .i64) _ _ _ 6 [.int .i64 6] from rfl) (Reps.one (show Kd.M (Kd.int .i64) _ _ _ 7 [.int .i64 7] from rfl) (Reps.none _ _))))))))))))); intro v293 w18 ho19 hb hg_ hnew_; clear hg_ hnew_; (first | rw [← Ny292.out] at ho19 | (simp only [Int.reduceToNat] at ho19; rw [← Ny292.out] at ho19)); have n0_ := Aside0.mk (Kd.S_below (pS_ HO_5.out) hb); have n1_ := Aside0.mk (Kd.R_below (pR_ HO_286002.out) hb); have n2_ := Aside0.mk (Kd.R_lower ho19 (keep_size (w := w) (g := g) (row := none) (kA_ HK.out))); have n3_ := Aside0.mk (blkStep (g := gb285) hb); have n4_ := Aside0.mk (IsS98.below isAll hb); have n5_ := Aside0.mk (KeepBut.trans (kA_ HK.out) (KeepBut.of_below hb g none) (.inl rfl)); have n6_ := Aside0.mk (below_step belowAll hb); clear HO_5; clear HO_286002; clear BK285; clear HI0; clear HK; clear HB; have HO_5 := n0_; have HO_286002 := n1_; have HO294 := n2_; have BK285 := n3_; have HI0 := n4_; have HK := n5_; have HB := n6_; clear n0_ n1_ n2_ n3_ n4_ n5_ n6_; clear hb ho19; obtain ⟨Ao20, co20, eo20⟩ := Kd.R_slice HO294.out; subst eo20) | ((with_reducible refine gate_callee (f := 80) rfl ?_); refine goesL_ (some 30) rfl rfl Try.func80 (by kernel_rfl) rfl #[.pointer (some ⟨g, 0, none⟩), .slice Ao20 y292.length co20] rfl (by (try simp only [List.map_toArray, List.map_cons, List.map_nil]); first | done | rfl | (simp only [List.length_drop, List.length_take]; rfl)) ?_; (with_reducible refine (spec_l1PickInt.calls g s0_0 x1001_2 x1002_2 _ _ y292 t295 t296 t297 w0 _ ?side1 ?side2 ?side3 ?side4 ?side5 A16.out).mono ?_); (case side1 => repeat (first | (with_reducible first | exact HI0.out | apply IsS98.alloc | apply IsS98.drewN | apply IsS98.drew | apply IsS98.set_1 | apply IsS98.set_2 | refine IsS98.far ?_ NB0_285.out _) | exact HI0.out)); (case side2 => repeat (first | (with_reducible first | exact HB.out | apply below_alloc | apply pw_below_drewN | apply below_drew1 | refine below_set ?_ (IsS98.ge HI0.out) | refine below_set ?_ GE285.out) | exact HB.out)); (case side3 => repeat (first | exact (Kd.R_reads' HO294.out).2.2 | (with_reducible refine Kd.C_alloc ?_ _) | (with_reducible refine Kd.C_drewN ?_ _) | (with_reducible refine Kd.C_drew ?_))); (case side4 => exact (Kd.R_reads' HO294.out).2.1); (case side5 => exact far_slice (IsS98.own_ne HI0.out HO294.out (by decide))); rintro e w21 ⟨rfl, hi, hb, hk⟩; refine ⟨_, rfl, ?_⟩; replace HO_5 := Aside0.mk (Kd.S_mono (Kd.S_keep (IsS98.apartS (show IsS98 w0 _ g s0_0 x1001_2 x1002_2 from by exact isAll) (pS_ HO_5.out) (by decide)) hk (fun _ h => h.2)) (fun _ h => h.1)); replace HO_286002 := Aside0.mk (Kd.R_mono (Kd.R_keep (IsS98.apart (show IsS98 w0 _ g s0_0 x1001_2 x1002_2 from by exact isAll) (pR_ HO_286002.out) (by decide)) hk (fun _ h => h.2)) (fun _ h => h.1)); replace BK285 := Aside0.mk (KeepBut.blk hk (g' := gb285) (o := .cells #[.bool x286000_2, .bool x286001_2, u286002] 43 (0, 0)) blkNow NB285_0.out (by simp)); replace HO294 := Aside0.mk (Kd.R_mono (Kd.R_keep (IsS98.apart (show IsS98 w0 _ g s0_0 x1001_2 x1002_2 from by exact isAll) (pR_ HO294.out) (by decide)) hk (fun _ h => h.2)) (fun _ h => h.1)); replace HK := Aside0.mk (KeepBut.trans (kA_ HK.out) hk (.inl rfl)); replace HB := Aside0.mk (hb); replace HI0 := Aside0.mk (hi); (try clear hb); (try clear hb2); (try clear hk); (try clear hi)) | ((with_reducible refine gate_dst (N := 9) rfl ?_); refine box_event ?hg (N := 9) ?hd (cs := #[.int .i64 0, .int .i64 0]) (t := 45) ?hr ?_; (case hd => rfl); (case hg => rfl); (case hr => first | (go_simp; done) | (go_simp; rfl)); intro gb298 hg w22 hbox hb; have n0_ := Aside0.mk (Kd.S_below (Kd.S_elderB (pS_ HO_5.out) gb298 (Nat.le_of_eq hg.symm)) hb); have n1_ := Aside0.mk (Kd.R_below (Kd.R_elderB (pR_ HO_286002.out) gb298 (Nat.le_of_eq hg.symm)) hb); have n2_ := Aside0.mk (Kd.R_below (pR_ HO294.out) hb); have n3_ := Aside0.mk (blkStep (g := gb285) hb); have n4_ := Aside0.mk (IsS98.below isAll hb); have n5_ := Aside0.mk (KeepBut.trans (kA_ HK.out) (KeepBut.of_below hb g none) (.inl rfl)); have n6_ := Aside0.mk (below_step belowAll hb); have n7_ := Aside0.mk (hbox); have n8_ := Aside0.mk ((by rw [hg]; exact (keep_size (w := w) (g := g) (row := none) (kA_ HK.out)) : w.heap.size ≤ gb298)); have n9_ := Aside0.mk ((Nat.le_trans HW0.out (by rw [hg]; exact (keep_size (w := w) (g := g) (row := none) (kA_ HK.out)) : w.heap.size ≤ gb298) : w0.heap.size ≤ gb298)); have n10_ := Aside0.mk ((by rw [hg]; exact Nat.ne_of_lt (blkLt (g := gb285)) : gb285 ≠ gb298)); have n11_ := Aside0.mk ((by rw [hg]; exact Nat.ne_of_gt (blkLt (g := gb285)) : gb298 ≠ gb285)); have n12_ := Aside0.mk ((by rw [hg]; exact Nat.ne_of_lt (IsS98.lt (show IsS98 w0 _ g s0_0 t296 t297 from by exact isAll)) : g ≠ gb298)); have n13_ := Aside0.mk ((by rw [hg]; exact Nat.ne_of_gt (IsS98.lt (show IsS98 w0 _ g s0_0 t296 t297 from by exact isAll)) : gb298 ≠ g)); clear HO_5; clear HO_286002; clear HO294; clear BK285; clear HI0; clear HK; clear HB; have HO_5 := n0_; have HO_286002 := n1_; have HO294 := n2_; have BK285 := n3_; have HI0 := n4_; have HK := n5_; have HB := n6_; have BK298 := n7_; have GW298 := n8_; have GE298 := n9_; have NB285_298 := n10_; have NB298_285 := n11_; have NB0_298 := n12_; have NB298_0 := n13_; clear n0_ n1_ n2_ n3_ n4_ n5_ n6_ n7_ n8_ n9_ n10_ n11_ n12_ n13_; clear hb hbox hg; have ⟨hnb23, hnc23⟩ := nn9_ NB298_285.out; have ⟨hnb24, hnc24⟩ := nn9_ NB298_0.out; have hcz25_0 := cz9_ BK298.out 0 rfl; have hcz25_1 := cz9_ BK298.out 1 rfl; have hfz25_0 := blk_frozen BK298.out 0; have hfz25_1 := blk_frozen BK298.out 1))
     (try simp only [Act.put, List.setIfInBounds_toArray, List.set_cons_zero, List.set_cons_succ])
     go_cut [39] (fun v39 wc => ∃ (kq : Nat) (x39_16 : Bool) (x1001_16 : Int) (x1002_16 : Int), v39 = .bool x39_16 ∧ Aside0 (spec_l7Draw.j2 kq a1 x5_1 x6_1 x8_2 x39_16 s0_0 x1001_16 x1002_16 x286000_2 x286001_2 x286002_2 t295 0 = some (r1, r2, r3)) ∧ Aside0 (kq ≤ k2) ∧ Aside0 (Kd.S k43 43 wc w.heap.size (fun k_ => some k_ ≠ (u286002 : Value).ownBlock ∧ k_ ≠ gb285 ∧ k_ ≠ gb298) u5 x5_1) ∧ Aside0 (Kd.R k45 45 wc w.heap.size (fun k_ => k_ ≠ gb298) u286002 x286002_2) ∧ Aside0 (wc.heap[gb285]? = some (.cells #[.bool x286000_2, .bool x286001_2, u286002] 43 (0, 0))) ∧ Aside0 (wc.heap[gb298]? = some (.cells #[.int .i64 t295, .int .i64 0] 45 (0, 0))) ∧ Aside0 (IsS98 w0 wc g s0_0 x1001_16 x1002_16) ∧ Aside0 (KeepBut w wc g none) ∧ Aside0 (Below w0.heap.size w0 wc))
     case first =>
      have H := HC17.out; clear HC17
      by_cases c26 : t295 = 4
      case neg =>
       rw [if_neg c26] at H; have c26b0 : (t295 == 4) = false := beq_eq_false_iff_ne.mpr c26; have c26b1 : (t295 != 4) = true := bne_iff_ne.mpr c26
       (first | rw [c26b0] | (simp only [i64_w, i32_w]; rw [c26b0]) | (rw [c26b2]; try simp only [Bool.not_false, Bool.not_true]) | skip)
       have H' := Aside0.mk H
       clear H; have ⟨hnb32, hnc32⟩ := nn9_ NB298_285.out; have ⟨hnb33, hnc33⟩ := nn9_ NB298_0.out; have hcz34_0 := cz9_ BK298.out 0 rfl; have hcz34_1 := cz9_ BK298.out 1 rfl; have hfz34_0 := blk_frozen BK298.out 0; have hfz34_1 := blk_frozen BK298.out 1
       go_wp2
       go_meet
       case rel => exact ⟨_, (false), (t296), (t297), (by first | rfl | (simp; done) | (simp [*]; done)), H', ⟨by have := HK1.out; have := HK2.out; first | omega | exact Nat.le_refl _⟩, ⟨by (with_reducible repeat (first | apply Kd.S_alloc | apply Kd.S_drewN | apply Kd.S_drew)); exact Kd.S_mono (Kd.S_far (p := ⟨gb298, 1, none⟩) (Kd.S_far (p := ⟨gb298, 0, none⟩) (Kd.S_mono HO_5.out (fun k_ hk => (⟨hk, hk.2⟩ : _ ∧ k_ ≠ gb298))) (fun _ hk => hk.2) (.int .i64 t295)) (fun _ hk => hk.2) (.int .i64 0)) (fun _ hk => ⟨hk.1.1.1, ⟨hk.1.1.2, hk.1.2⟩⟩)⟩, ⟨by (with_reducible repeat (first | apply Kd.R_alloc | apply Kd.R_drewN | apply Kd.R_drew)); exact Kd.R_mono (Kd.R_far (p := ⟨gb298, 1, none⟩) (Kd.R_far (p := ⟨gb298, 0, none⟩) (Kd.R_mono HO_286002.out (fun k_ hk => (⟨hk, hk.2⟩ : _ ∧ k_ ≠ gb298))) (fun _ hk => hk.2) (.int .i64 t295)) (fun _ hk => hk.2) (.int .i64 0)) (fun _ hk => hk.1.2)⟩, ⟨blkFars⟩, ⟨by (with_reducible repeat (first | refine blk_drewN ?_ _ | refine blk_drew ?_ | refine blk_alloc ?_ _)); refine blk_put (cs := #[.int .i64 t295, .int .i64 0]) ?_ 1 _ rfl; (with_reducible repeat (first | refine blk_drewN ?_ _ | refine blk_drew ?_ | refine blk_alloc ?_ _)); refine blk_put (cs := #[.int .i64 0, .int .i64 0]) ?_ 0 _ rfl; (with_reducible repeat (first | refine blk_drewN ?_ _ | refine blk_drew ?_ | refine blk_alloc ?_ _)); exact BK298.out⟩, ⟨by exact isAll⟩, ⟨by exact (kA_ HK.out)⟩, ⟨by exact belowAll⟩⟩
      rw [if_pos c26] at H; have c26b0 : (t295 == 4) = true := beq_iff_eq.mpr c26; have c26b1 : (t295 != 4) = false := bne_eq_false_iff_eq.mpr c26; clear c26
      (first | rw [c26b0] | (simp only [i64_w, i32_w]; rw [c26b0]) | (rw [c26b2]; try simp only [Bool.not_false, Bool.not_true]) | skip)
      replace H := Option.bind_eq_some_iff.mp H; obtain ⟨⟨t299, t300, t301⟩, A270, H⟩ := H
      replace H : (spec_l7Draw.j2 k2 a1 x5_1 x6_1 x8_2 (!t299) s0_0 t300 t301 x286000_2 x286001_2 x286002_2 t295 0) = some (r1, r2, r3) := H
      have A27 := Aside0.mk A270; clear A270
      have H' := Aside0.mk H
      clear H; have ⟨hnb28, hnc28⟩ := nn9_ NB298_285.out; have ⟨hnb29, hnc29⟩ := nn9_ NB298_0.out; have hcz30_0 := cz9_ BK298.out 0 rfl; have hcz30_1 := cz9_ BK298.out 1 rfl; have hfz30_0 := blk_frozen BK298.out 0; have hfz30_1 := blk_frozen BK298.out 1
      go_wp2_with (first | (go_at_call 79; (with_reducible refine (spec_l1Once.calls g s0_0 t296 t297 3 t299 t300 t301 w0 _ ?side1 ?side2 A27.out).mono ?_); (case side1 => repeat (first | (with_reducible first | exact HI0.out | apply IsS98.alloc | apply IsS98.drewN | apply IsS98.drew | apply IsS98.set_1 | apply IsS98.set_2 | refine IsS98.far ?_ NB0_285.out _ | refine IsS98.far ?_ NB0_298.out _) | exact HI0.out)); (case side2 => repeat (first | (with_reducible first | exact HB.out | apply below_alloc | apply pw_below_drewN | apply below_drew1 | refine below_set ?_ (IsS98.ge HI0.out) | refine below_set ?_ GE285.out | refine below_set ?_ GE298.out) | exact HB.out)); rintro e w31 ⟨rfl, hi, hb, hk⟩; replace HO_5 := Aside0.mk (Kd.S_mono (Kd.S_keep (IsS98.apartS (show IsS98 w0 _ g s0_0 t296 t297 from by exact isAll) (by (with_reducible repeat (first | apply Kd.S_alloc | apply Kd.S_drewN | apply Kd.S_drew)); exact (Kd.S_mono (Kd.S_far (p := ⟨gb298, 1, none⟩) (Kd.S_far (p := ⟨gb298, 0, none⟩) (Kd.S_mono HO_5.out (fun k_ hk => (⟨hk, hk.2⟩ : _ ∧ k_ ≠ gb298))) (fun _ hk => hk.2) (.int .i64 t295)) (fun _ hk => hk.2) (.int .i64 0)) (fun _ h_ => h_.1))) (by decide)) hk (fun _ h => h.2)) (fun _ h => h.1)); replace HO_286002 := Aside0.mk (Kd.R_mono (Kd.R_keep (IsS98.apart (show IsS98 w0 _ g s0_0 t296 t297 from by exact isAll) (by (with_reducible repeat (first | apply Kd.R_alloc | apply Kd.R_drewN | apply Kd.R_drew)); exact (Kd.R_mono (Kd.R_far (p := ⟨gb298, 1, none⟩) (Kd.R_far (p := ⟨gb298, 0, none⟩) (Kd.R_mono HO_286002.out (fun k_ hk => (⟨hk, hk.2⟩ : _ ∧ k_ ≠ gb298))) (fun _ hk => hk.2) (.int .i64 t295)) (fun _ hk => hk.2) (.int .i64 0)) (fun _ h_ => h_.1))) (by decide)) hk (fun _ h => h.2)) (fun _ h => h.1)); replace BK285 := Aside0.mk (KeepBut.blk hk (g' := gb285) (o := .cells #[.bool x286000_2, .bool x286001_2, u286002] 43 (0, 0)) (blkFars) NB285_0.out (by simp)); replace HO294 := Aside0.mk (Kd.R_mono (Kd.R_keep (IsS98.apart (show IsS98 w0 _ g s0_0 t296 t297 from by exact isAll) (by (with_reducible repeat (first | apply Kd.R_alloc | apply Kd.R_drewN | apply Kd.R_drew)); exact (Kd.R_mono (Kd.R_far (p := ⟨gb298, 1, none⟩) (Kd.R_far (p := ⟨gb298, 0, none⟩) (Kd.R_types HO294.out BK298.out (by decide)) (fun _ hk => hk.2) (.int .i64 t295)) (fun _ hk => hk.2) (.int .i64 0)) (fun _ h_ => h_.1))) (by decide)) hk (fun _ h => h.2)) (fun _ h => h.1)); replace BK298 := Aside0.mk (KeepBut.blk hk (g' := gb298) (o := .cells #[.int .i64 t295, .int .i64 0] 45 (0, 0)) (by (with_reducible repeat (first | refine blk_drewN ?_ _ | refine blk_drew ?_ | refine blk_alloc ?_ _)); refine blk_put (cs := #[.int .i64 t295, .int .i64 0]) ?_ 1 _ rfl; (with_reducible repeat (first | refine blk_drewN ?_ _ | refine blk_drew ?_ | refine blk_alloc ?_ _)); refine blk_put (cs := #[.int .i64 0, .int .i64 0]) ?_ 0 _ rfl; (with_reducible repeat (first | refine blk_drewN ?_ _ | refine blk_drew ?_ | refine blk_alloc ?_ _)); exact BK298.out) NB298_0.out (by simp)); replace HK := Aside0.mk (KeepBut.trans (kA_ HK.out) hk (.inl rfl)); replace HB := Aside0.mk (hb); replace HI0 := Aside0.mk (hi); (try clear hb); (try clear hb2); (try clear hk); (try clear hi)))
      go_meet
      case rel => exact ⟨_, (!t299), (t300), (t301), (by first | rfl | (simp; done) | (simp [*]; done)), H', ⟨by have := HK1.out; have := HK2.out; first | omega | exact Nat.le_refl _⟩, ⟨by (with_reducible repeat (first | apply Kd.S_alloc | apply Kd.S_drewN | apply Kd.S_drew)); exact Kd.S_mono HO_5.out (fun _ hk => ⟨hk.1.1, ⟨hk.1.2, hk.2⟩⟩)⟩, ⟨by (with_reducible repeat (first | apply Kd.R_alloc | apply Kd.R_drewN | apply Kd.R_drew)); exact Kd.R_mono HO_286002.out (fun _ hk => hk.2)⟩, ⟨by (with_reducible repeat (first | refine blk_drewN ?_ _ | refine blk_drew ?_ | refine blk_alloc ?_ _)); exact BK285.out⟩, ⟨by (with_reducible repeat (first | refine blk_drewN ?_ _ | refine blk_drew ?_ | refine blk_alloc ?_ _)); exact BK298.out⟩, ⟨by exact isAll⟩, ⟨by exact (kA_ HK.out)⟩, ⟨by exact belowAll⟩⟩
     case rest =>
      clear HC17; (try clear c1); (try clear c2); (try clear p2); (try clear c3); (try clear c4); (try clear c5); (try clear c5b0); (try clear c6); (try clear c7); (try clear c8); (try clear c12); (try clear c15); (try clear c15b0); (try clear c23); (try clear c24); (try clear c26); (try clear c26b0); (try clear c26b1); (try clear c28); (try clear c29); (try clear c32); (try clear c33); (try clear hcz13_0 hcz13_1 hcz13_2); (try clear hcz25_0 hcz25_1); (try clear hcz30_0 hcz30_1); (try clear hcz34_0 hcz34_1); (try clear hfz13_0 hfz13_1 hfz13_2); (try clear hfz25_0 hfz25_1); (try clear hfz30_0 hfz30_1); (try clear hfz34_0 hfz34_1); (try clear p2); obtain ⟨kq, x39_16, x1001_16, x1002_16, rfl, HA, HJ16, HO_5, HO_286002, BK285, BK298, HI0, HK, HB⟩ := hcut
      cases kq with
      | zero => exact absurd HA.out (by simp [spec_l7Draw.j2])
      | succ kj16 =>
       have H := HA.out; clear HA; simp only [spec_l7Draw.j2] at H; have HC35 := Aside0.mk H; clear H
       go_upto_if 39 with (fail)
       go_cut [] (fun wc => ∃ (kq : Nat) (x299000_34 : Int), Aside0 (spec_l7Draw.j3 kq a1 x5_1 x6_1 x8_2 s0_0 x1001_16 x1002_16 x286000_2 x286001_2 x286002_2 x299000_34 0 = some (r1, r2, r3)) ∧ Aside0 (kq ≤ kj16) ∧ Aside0 (Kd.S k43 43 wc w.heap.size (fun k_ => some k_ ≠ (u286002 : Value).ownBlock ∧ k_ ≠ gb285 ∧ k_ ≠ gb298) u5 x5_1) ∧ Aside0 (Kd.R k45 45 wc w.heap.size (fun k_ => k_ ≠ gb298) u286002 x286002_2) ∧ Aside0 (wc.heap[gb285]? = some (.cells #[.bool x286000_2, .bool x286001_2, u286002] 43 (0, 0))) ∧ Aside0 (wc.heap[gb298]? = some (.cells #[.int .i64 x299000_34, .int .i64 0] 45 (0, 0))) ∧ Aside0 (IsS98 w0 wc g s0_0 x1001_16 x1002_16) ∧ Aside0 (KeepBut w wc g none) ∧ Aside0 (Below w0.heap.size w0 wc))
       case first =>
        have H := HC35.out; clear HC35
        by_cases c36 : x39_16 = true
        case neg =>
         replace c36 := Bool.eq_false_iff.mpr c36; subst c36
         have H1 : (spec_l7Draw.j3 kj16 a1 x5_1 x6_1 x8_2 s0_0 x1001_16 x1002_16 x286000_2 x286001_2 x286002_2 t295 0) = some (r1, r2, r3) := by rw [if_neg (show ¬ (false = true) by decide)] at H; exact H
         clear H; have H := H1; clear H1
         have H' := Aside0.mk H
         clear H
         go_wp2
         go_meet
         case rel => exact ⟨_, (t295), H', ⟨by have := HK1.out; have := HK2.out; have := HJ16.out; first | omega | exact Nat.le_refl _⟩, ⟨by (with_reducible repeat (first | apply Kd.S_alloc | apply Kd.S_drewN | apply Kd.S_drew)); exact HO_5.out⟩, ⟨by (with_reducible repeat (first | apply Kd.R_alloc | apply Kd.R_drewN | apply Kd.R_drew)); exact HO_286002.out⟩, ⟨by (with_reducible repeat (first | refine blk_drewN ?_ _ | refine blk_drew ?_ | refine blk_alloc ?_ _)); exact BK285.out⟩, ⟨by (with_reducible repeat (first | refine blk_drewN ?_ _ | refine blk_drew ?_ | refine blk_alloc ?_ _)); exact BK298.out⟩, ⟨by exact isAll⟩, ⟨by exact (kA_ HK.out)⟩, ⟨by exact belowAll⟩⟩
        subst c36
        have H1 : (spec_l7Draw.j3 kj16 a1 x5_1 x6_1 x8_2 s0_0 x1001_16 x1002_16 x286000_2 x286001_2 x286002_2 6 0) = some (r1, r2, r3) := by rw [if_pos rfl] at H; exact H
        clear H; have H := H1; clear H1
        have H' := Aside0.mk H
        clear H; have ⟨hnb37, hnc37⟩ := nn9_ NB298_285.out; have ⟨hnb38, hnc38⟩ := nn9_ NB298_0.out; have hcz39_0 := cz9_ BK298.out 0 rfl; have hcz39_1 := cz9_ BK298.out 1 rfl; have hfz39_0 := blk_frozen BK298.out 0; have hfz39_1 := blk_frozen BK298.out 1
        go_wp2
        go_meet
        case rel => exact ⟨_, (6), H', ⟨by have := HK1.out; have := HK2.out; have := HJ16.out; first | omega | exact Nat.le_refl _⟩, ⟨by (with_reducible repeat (first | apply Kd.S_alloc | apply Kd.S_drewN | apply Kd.S_drew)); exact Kd.S_mono (Kd.S_far (p := ⟨gb298, 0, none⟩) (Kd.S_mono HO_5.out (fun k_ hk => (⟨hk, hk.2.2⟩ : _ ∧ k_ ≠ gb298))) (fun _ hk => hk.2) (.int .i64 6)) (fun _ hk => ⟨hk.1.1, ⟨hk.1.2.1, hk.1.2.2⟩⟩)⟩, ⟨by (with_reducible repeat (first | apply Kd.R_alloc | apply Kd.R_drewN | apply Kd.R_drew)); exact Kd.R_mono (Kd.R_far (p := ⟨gb298, 0, none⟩) (Kd.R_mono HO_286002.out (fun k_ hk => (⟨hk, hk⟩ : _ ∧ k_ ≠ gb298))) (fun _ hk => hk.2) (.int .i64 6)) (fun _ hk => hk.1)⟩, ⟨blkFars⟩, ⟨by (with_reducible repeat (first | refine blk_drewN ?_ _ | refine blk_drew ?_ | refine blk_alloc ?_ _)); refine blk_put (cs := #[.int .i64 t295, .int .i64 0]) ?_ 0 _ rfl; (with_reducible repeat (first | refine blk_drewN ?_ _ | refine blk_drew ?_ | refine blk_alloc ?_ _)); exact BK298.out⟩, ⟨by exact isAll⟩, ⟨by exact (kA_ HK.out)⟩, ⟨by exact belowAll⟩⟩
       case rest =>
        clear HC35; (try clear c1); (try clear c2); (try clear p2); (try clear c3); (try clear c4); (try clear c5); (try clear c5b0); (try clear c6); (try clear c7); (try clear c8); (try clear c12); (try clear c15); (try clear c15b0); (try clear c23); (try clear c24); (try clear c26); (try clear c26b0); (try clear c26b1); (try clear c28); (try clear c29); (try clear c32); (try clear c33); (try clear c36); (try clear c37); (try clear c38); (try clear hcz13_0 hcz13_1 hcz13_2); (try clear hcz25_0 hcz25_1); (try clear hcz30_0 hcz30_1); (try clear hcz34_0 hcz34_1); (try clear hcz39_0 hcz39_1); (try clear hfz13_0 hfz13_1 hfz13_2); (try clear hfz25_0 hfz25_1); (try clear hfz30_0 hfz30_1); (try clear hfz34_0 hfz34_1); (try clear hfz39_0 hfz39_1); (try clear p2); obtain ⟨kq, x299000_34, HA, HJ34, HO_5, HO_286002, BK285, BK298, HI0, HK, HB⟩ := hcut
        cases kq with
        | zero => exact absurd HA.out (by simp [spec_l7Draw.j3])
        | succ kj34 =>
         have H := HA.out; clear HA; simp only [spec_l7Draw.j3] at H; replace H := Option.bind_eq_some_iff.mp H; obtain ⟨t302, A400, H⟩ := H
         replace H : (if t302 = true then ((spec_l1Below.f s0_0 x1001_16 x1002_16 a1).bind fun bt303 => (spec_l7Draw.j4 kj34 a1 x5_1 x6_1 x8_2 s0_0 bt303.2.1 bt303.2.2 x286000_2 x286001_2 x286002_2 x299000_34 bt303.1)) else (spec_l7Draw.j4 kj34 a1 x5_1 x6_1 x8_2 s0_0 x1001_16 x1002_16 x286000_2 x286001_2 x286002_2 x299000_34 0)) = some (r1, r2, r3) := H
         have A40 := Aside0.mk A400; clear A400; have HC41 := Aside0.mk H; clear H; have ⟨hnb42, hnc42⟩ := nn9_ NB298_285.out; have ⟨hnb43, hnc43⟩ := nn9_ NB298_0.out; have hcz44_0 := cz9_ BK298.out 0 rfl; have hcz44_1 := cz9_ BK298.out 1 rfl; have hfz44_0 := blk_frozen BK298.out 0; have hfz44_1 := blk_frozen BK298.out 1
         go_upto_if 43 with (first | ((with_reducible refine gate_callee (f := 72) rfl ?_); refine goesL_ (some 43) rfl rfl Try.func72 (by kernel_rfl) rfl #[.int .i64 x299000_34] rfl (by (try simp only [List.map_toArray, List.map_cons, List.map_nil]); first | done | rfl | (simp only [List.length_drop, List.length_take]; rfl)) ?_; (with_reducible refine (spec_l7Points.calls x299000_34 t302 _ A40.out).mono ?_); rintro e w' ⟨rfl, ⟨nd, rfl⟩⟩; refine ⟨_, rfl, ?_⟩))
         (try simp only [Act.put, List.setIfInBounds_toArray, List.set_cons_zero, List.set_cons_succ])
         go_cut [] (fun wc => ∃ (kq : Nat) (x1001_40 : Int) (x1002_40 : Int) (x299001_40 : Int), Aside0 (spec_l7Draw.j4 kq a1 x5_1 x6_1 x8_2 s0_0 x1001_40 x1002_40 x286000_2 x286001_2 x286002_2 x299000_34 x299001_40 = some (r1, r2, r3)) ∧ Aside0 (kq ≤ kj34) ∧ Aside0 (Kd.S k43 43 wc w.heap.size (fun k_ => some k_ ≠ (u286002 : Value).ownBlock ∧ k_ ≠ gb285 ∧ k_ ≠ gb298) u5 x5_1) ∧ Aside0 (Kd.R k45 45 wc w.heap.size (fun k_ => k_ ≠ gb298) u286002 x286002_2) ∧ Aside0 (wc.heap[gb285]? = some (.cells #[.bool x286000_2, .bool x286001_2, u286002] 43 (0, 0))) ∧ Aside0 (wc.heap[gb298]? = some (.cells #[.int .i64 x299000_34, .int .i64 x299001_40] 45 (0, 0))) ∧ Aside0 (IsS98 w0 wc g s0_0 x1001_40 x1002_40) ∧ Aside0 (KeepBut w wc g none) ∧ Aside0 (Below w0.heap.size w0 wc))
         case first =>
          have H := HC41.out; clear HC41
          by_cases c45 : t302 = true
          case neg =>
           replace c45 := Bool.eq_false_iff.mpr c45; subst c45
           have H1 : (spec_l7Draw.j4 kj34 a1 x5_1 x6_1 x8_2 s0_0 x1001_16 x1002_16 x286000_2 x286001_2 x286002_2 x299000_34 0) = some (r1, r2, r3) := by rw [if_neg (show ¬ (false = true) by decide)] at H; exact H
           clear H; have H := H1; clear H1
           have H' := Aside0.mk H
           clear H
           go_wp2
           go_meet
           case rel => exact ⟨_, (x1001_16), (x1002_16), (0), H', ⟨by have := HK1.out; have := HK2.out; have := HJ16.out; have := HJ34.out; first | omega | exact Nat.le_refl _⟩, ⟨by (with_reducible repeat (first | apply Kd.S_alloc | apply Kd.S_drewN | apply Kd.S_drew)); exact HO_5.out⟩, ⟨by (with_reducible repeat (first | apply Kd.R_alloc | apply Kd.R_drewN | apply Kd.R_drew)); exact HO_286002.out⟩, ⟨by (with_reducible repeat (first | refine blk_drewN ?_ _ | refine blk_drew ?_ | refine blk_alloc ?_ _)); exact BK285.out⟩, ⟨by (with_reducible repeat (first | refine blk_drewN ?_ _ | refine blk_drew ?_ | refine blk_alloc ?_ _)); exact BK298.out⟩, ⟨by exact isAll⟩, ⟨by exact (kA_ HK.out)⟩, ⟨by exact belowAll⟩⟩
          subst c45
          have H1 : ((spec_l1Below.f s0_0 x1001_16 x1002_16 a1).bind fun bt303 => (spec_l7Draw.j4 kj34 a1 x5_1 x6_1 x8_2 s0_0 bt303.2.1 bt303.2.2 x286000_2 x286001_2 x286002_2 x299000_34 bt303.1)) = some (r1, r2, r3) := by rw [if_pos rfl] at H; exact H
          clear H; have H := H1; clear H1; replace H := Option.bind_eq_some_iff.mp H; obtain ⟨⟨t303, t304, t305⟩, A460, H⟩ := H
          replace H : (spec_l7Draw.j4 kj34 a1 x5_1 x6_1 x8_2 s0_0 t304 t305 x286000_2 x286001_2 x286002_2 x299000_34 t303) = some (r1, r2, r3) := H
          have A46 := Aside0.mk A460; clear A460
          have H' := Aside0.mk H
          clear H
          go_wp2_with (first | ((with_reducible refine gate_callee (f := 49) rfl ?_); refine goesL_ (some 46) rfl rfl Try.func49 (by kernel_rfl) rfl #[.pointer (some ⟨g, 0, none⟩), .int .i64 a1] rfl (by (try simp only [List.map_toArray, List.map_cons, List.map_nil]); first | done | rfl | (simp only [List.length_drop, List.length_take]; rfl)) ?_; (with_reducible refine (spec_l1Below.calls g s0_0 x1001_16 x1002_16 a1 t303 t304 t305 w0 _ ?side1 ?side2 A46.out).mono ?_); (case side1 => repeat (first | (with_reducible first | exact HI0.out | apply IsS98.alloc | apply IsS98.drewN | apply IsS98.drew | apply IsS98.set_1 | apply IsS98.set_2 | refine IsS98.far ?_ NB0_285.out _ | refine IsS98.far ?_ NB0_298.out _) | exact HI0.out)); (case side2 => repeat (first | (with_reducible first | exact HB.out | apply below_alloc | apply pw_below_drewN | apply below_drew1 | refine below_set ?_ (IsS98.ge HI0.out) | refine below_set ?_ GE285.out | refine below_set ?_ GE298.out) | exact HB.out)); rintro e w47 ⟨rfl, hi, hb, hk⟩; refine ⟨_, rfl, ?_⟩; replace HO_5 := Aside0.mk (Kd.S_mono (Kd.S_keep (IsS98.apartS (show IsS98 w0 _ g s0_0 x1001_16 x1002_16 from by exact isAll) (pS_ HO_5.out) (by decide)) hk (fun _ h => h.2)) (fun _ h => h.1)); replace HO_286002 := Aside0.mk (Kd.R_mono (Kd.R_keep (IsS98.apart (show IsS98 w0 _ g s0_0 x1001_16 x1002_16 from by exact isAll) (pR_ HO_286002.out) (by decide)) hk (fun _ h => h.2)) (fun _ h => h.1)); replace BK285 := Aside0.mk (KeepBut.blk hk (g' := gb285) (o := .cells #[.bool x286000_2, .bool x286001_2, u286002] 43 (0, 0)) blkNow NB285_0.out (by simp)); replace BK298 := Aside0.mk (KeepBut.blk hk (g' := gb298) (o := .cells #[.int .i64 x299000_34, .int .i64 0] 45 (0, 0)) blkNow NB298_0.out (by simp)); replace HK := Aside0.mk (KeepBut.trans (kA_ HK.out) hk (.inl rfl)); replace HB := Aside0.mk (hb); replace HI0 := Aside0.mk (hi); (try clear hb); (try clear hb2); (try clear hk); (try clear hi); have ⟨hnb48, hnc48⟩ := nn9_ NB298_285.out; have ⟨hnb49, hnc49⟩ := nn9_ NB298_0.out; have hcz50_0 := cz9_ BK298.out 0 rfl; have hcz50_1 := cz9_ BK298.out 1 rfl; have hfz50_0 := blk_frozen BK298.out 0; have hfz50_1 := blk_frozen BK298.out 1))
          go_meet
          case rel => exact ⟨_, (t304), (t305), (t303), H', ⟨by have := HK1.out; have := HK2.out; have := HJ16.out; have := HJ34.out; first | omega | exact Nat.le_refl _⟩, ⟨by (with_reducible repeat (first | apply Kd.S_alloc | apply Kd.S_drewN | apply Kd.S_drew)); exact Kd.S_mono (Kd.S_far (p := ⟨gb298, 1, none⟩) (Kd.S_mono HO_5.out (fun k_ hk => (⟨hk, hk.2.2⟩ : _ ∧ k_ ≠ gb298))) (fun _ hk => hk.2) (.int .i64 t303)) (fun _ hk => ⟨hk.1.1, ⟨hk.1.2.1, hk.1.2.2⟩⟩)⟩, ⟨by (with_reducible repeat (first | apply Kd.R_alloc | apply Kd.R_drewN | apply Kd.R_drew)); exact Kd.R_mono (Kd.R_far (p := ⟨gb298, 1, none⟩) (Kd.R_mono HO_286002.out (fun k_ hk => (⟨hk, hk⟩ : _ ∧ k_ ≠ gb298))) (fun _ hk => hk.2) (.int .i64 t303)) (fun _ hk => hk.1)⟩, ⟨blkFars⟩, ⟨by (with_reducible repeat (first | refine blk_drewN ?_ _ | refine blk_drew ?_ | refine blk_alloc ?_ _)); refine blk_put (cs := #[.int .i64 x299000_34, .int .i64 0]) ?_ 1 _ rfl; (with_reducible repeat (first | refine blk_drewN ?_ _ | refine blk_drew ?_ | refine blk_alloc ?_ _)); exact BK298.out⟩, ⟨by exact isAll⟩, ⟨by exact (kA_ HK.out)⟩, ⟨by exact belowAll⟩⟩
         case rest =>
          clear HC41; (try clear c1); (try clear c2); (try clear p2); (try clear c3); (try clear c4); (try clear c5); (try clear c5b0); (try clear c6); (try clear c7); (try clear c8); (try clear c12); (try clear c15); (try clear c15b0); (try clear c23); (try clear c24); (try clear c26); (try clear c26b0); (try clear c26b1); (try clear c28); (try clear c29); (try clear c32); (try clear c33); (try clear c36); (try clear c37); (try clear c38); (try clear c42); (try clear c43); (try clear c45); (try clear c48); (try clear c49); (try clear hcz13_0 hcz13_1 hcz13_2); (try clear hcz25_0 hcz25_1); (try clear hcz30_0 hcz30_1); (try clear hcz34_0 hcz34_1); (try clear hcz39_0 hcz39_1); (try clear hcz44_0 hcz44_1); (try clear hcz50_0 hcz50_1); (try clear hfz13_0 hfz13_1 hfz13_2); (try clear hfz25_0 hfz25_1); (try clear hfz30_0 hfz30_1); (try clear hfz34_0 hfz34_1); (try clear hfz39_0 hfz39_1); (try clear hfz44_0 hfz44_1); (try clear hfz50_0 hfz50_1); (try clear p2); obtain ⟨kq, x1001_40, x1002_40, x299001_40, HA, HJ40, HO_5, HO_286002, BK285, BK298, HI0, HK, HB⟩ := hcut
          cases kq with
          | zero => exact absurd HA.out (by simp [spec_l7Draw.j4])
          | succ kj40 =>
           have H := HA.out; clear HA; simp only [spec_l7Draw.j4] at H; obtain ⟨y307, hy307⟩ : ∃ y_ : List (S45), y_ = (([] : List (S45))) := ⟨_, rfl⟩
           replace H : (if y307.length + x286002_2.length < 8796093022208 then ((some (y307 ++ x286002_2 : List (S45))).bind fun y310 => ((some (([(⟨x299000_34, x299001_40⟩ : S45)] : List (S45)) : List (S45))).bind fun y313 => (if y310.length + y313.length < 8796093022208 then ((some (y310 ++ y313 : List (S45))).bind fun y316 => ((spec_l7Sub.f kj40 x286000_2 x286001_2 y316 a1).bind fun t319 => (if t319 = true then (spec_l7Draw.l1 kj40 a1 x5_1 x6_1 (wrap64 (x8_2 - 1)) s0_0 x1001_40 x1002_40 x286000_2 x286001_2 y316) else (spec_l7Draw.l1 kj40 a1 x5_1 x6_1 (wrap64 (x8_2 - 1)) s0_0 x1001_40 x1002_40 x286000_2 x286001_2 x286002_2)))) else (none)))) else (none)) = some (r1, r2, r3) := by first | (rw [hy307]; with_reducible exact H) | (have H2_ := (Option.bind_some _ _).symm.trans H; rw [hy307]; with_reducible exact H2_) | (have H2_ := (Option.bind_some _ _).symm.trans H; with_reducible exact H2_) | with_reducible exact H | (rw [hy307]; exact H) | exact H
           have Ny307 := Aside0.mk hy307; clear hy307
           by_cases c51 : y307.length + x286002_2.length < 8796093022208
           case neg =>
            rw [if_neg c51] at H
            exact absurd H (by simp)
           rw [if_pos c51] at H; have LMc51 := Aside0.mk c51; clear c51; obtain ⟨y310, hy310⟩ : ∃ y_ : List (S45), y_ = (y307 ++ x286002_2) := ⟨_, rfl⟩
           replace H : ((some (([(⟨x299000_34, x299001_40⟩ : S45)] : List (S45)) : List (S45))).bind fun y313 => (if y310.length + y313.length < 8796093022208 then ((some (y310 ++ y313 : List (S45))).bind fun y316 => ((spec_l7Sub.f kj40 x286000_2 x286001_2 y316 a1).bind fun t319 => (if t319 = true then (spec_l7Draw.l1 kj40 a1 x5_1 x6_1 (wrap64 (x8_2 - 1)) s0_0 x1001_40 x1002_40 x286000_2 x286001_2 y316) else (spec_l7Draw.l1 kj40 a1 x5_1 x6_1 (wrap64 (x8_2 - 1)) s0_0 x1001_40 x1002_40 x286000_2 x286001_2 x286002_2)))) else (none))) = some (r1, r2, r3) := by first | (rw [hy310]; with_reducible exact H) | (have H2_ := (Option.bind_some _ _).symm.trans H; rw [hy310]; with_reducible exact H2_) | (have H2_ := (Option.bind_some _ _).symm.trans H; with_reducible exact H2_) | with_reducible exact H | (rw [hy310]; exact H) | exact H
           have Ny310 := Aside0.mk hy310; clear hy310; obtain ⟨y313, hy313⟩ : ∃ y_ : List (S45), y_ = (([(⟨x299000_34, x299001_40⟩ : S45)] : List (S45))) := ⟨_, rfl⟩
           replace H : (if y310.length + y313.length < 8796093022208 then ((some (y310 ++ y313 : List (S45))).bind fun y316 => ((spec_l7Sub.f kj40 x286000_2 x286001_2 y316 a1).bind fun t319 => (if t319 = true then (spec_l7Draw.l1 kj40 a1 x5_1 x6_1 (wrap64 (x8_2 - 1)) s0_0 x1001_40 x1002_40 x286000_2 x286001_2 y316) else (spec_l7Draw.l1 kj40 a1 x5_1 x6_1 (wrap64 (x8_2 - 1)) s0_0 x1001_40 x1002_40 x286000_2 x286001_2 x286002_2)))) else (none)) = some (r1, r2, r3) := by first | (rw [hy313]; with_reducible exact H) | (have H2_ := (Option.bind_some _ _).symm.trans H; rw [hy313]; with_reducible exact H2_) | (have H2_ := (Option.bind_some _ _).symm.trans H; with_reducible exact H2_) | with_reducible exact H | (rw [hy313]; exact H) | exact H
           have Ny313 := Aside0.mk hy313; clear hy313
           by_cases c52 : y310.length + y313.length < 8796093022208
           case neg =>
            rw [if_neg c52] at H
            exact absurd H (by simp)
           rw [if_pos c52] at H; have LMc52 := Aside0.mk c52; clear c52; obtain ⟨y316, hy316⟩ : ∃ y_ : List (S45), y_ = (y310 ++ y313) := ⟨_, rfl⟩
           replace H : ((spec_l7Sub.f kj40 x286000_2 x286001_2 y316 a1).bind fun t319 => (if t319 = true then (spec_l7Draw.l1 kj40 a1 x5_1 x6_1 (wrap64 (x8_2 - 1)) s0_0 x1001_40 x1002_40 x286000_2 x286001_2 y316) else (spec_l7Draw.l1 kj40 a1 x5_1 x6_1 (wrap64 (x8_2 - 1)) s0_0 x1001_40 x1002_40 x286000_2 x286001_2 x286002_2))) = some (r1, r2, r3) := by first | (rw [hy316]; with_reducible exact H) | (have H2_ := (Option.bind_some _ _).symm.trans H; rw [hy316]; with_reducible exact H2_) | (have H2_ := (Option.bind_some _ _).symm.trans H; with_reducible exact H2_) | with_reducible exact H | (rw [hy316]; exact H) | exact H
           have Ny316 := Aside0.mk hy316; clear hy316; replace H := Option.bind_eq_some_iff.mp H; obtain ⟨t319, A530, H⟩ := H
           replace H : (if t319 = true then (spec_l7Draw.l1 kj40 a1 x5_1 x6_1 (wrap64 (x8_2 - 1)) s0_0 x1001_40 x1002_40 x286000_2 x286001_2 y316) else (spec_l7Draw.l1 kj40 a1 x5_1 x6_1 (wrap64 (x8_2 - 1)) s0_0 x1001_40 x1002_40 x286000_2 x286001_2 x286002_2)) = some (r1, r2, r3) := H
           have A53 := Aside0.mk A530; clear A530
           by_cases c54 : t319 = true
           case neg =>
            replace c54 := Bool.eq_false_iff.mpr c54; subst c54
            have H1 : (spec_l7Draw.l1 kj40 a1 x5_1 x6_1 (wrap64 (x8_2 - 1)) s0_0 x1001_40 x1002_40 x286000_2 x286001_2 x286002_2) = some (r1, r2, r3) := by rw [if_neg (show ¬ (false = true) by decide)] at H; exact H
            clear H; have H := H1; clear H1
            have H' := Aside0.mk H
            clear H; have ⟨hnb80, hnc80⟩ := nn9_ NB285_298.out; have ⟨hnb81, hnc81⟩ := nn9_ NB285_0.out; have hcz82_0 := cz9_ BK285.out 0 rfl; have hcz82_1 := cz9_ BK285.out 1 rfl; have hcz82_2 := cz9_ BK285.out 2 rfl; have hfz82_0 := blk_frozen BK285.out 0; have hfz82_1 := blk_frozen BK285.out 1; have hfz82_2 := blk_frozen BK285.out 2
            try go_wp2_with (first | ((with_reducible refine gate_dst (N := 10) rfl ?_); refine box_event ?hg (N := 10) ?hd (cs := #[.bool false, .bool false, .slice none 0 0]) (t := 43) ?hr ?_; (case hd => rfl); (case hg => rfl); (case hr => first | (go_simp; done) | (go_simp; rfl)); intro gb306 hg w83 hbox hb; have n0_ := Aside0.mk (Kd.S_below (Kd.S_elderB (pS_ HO_5.out) gb306 (Nat.le_of_eq hg.symm)) hb); have n1_ := Aside0.mk (Kd.R_below (pR_ HO_286002.out) hb); have n2_ := Aside0.mk (blkStep (g := gb285) hb); have n3_ := Aside0.mk (blkStep (g := gb298) hb); have n4_ := Aside0.mk (IsS98.below isAll hb); have n5_ := Aside0.mk (KeepBut.trans (kA_ HK.out) (KeepBut.of_below hb g none) (.inl rfl)); have n6_ := Aside0.mk (below_step belowAll hb); have n7_ := Aside0.mk (hbox); have n8_ := Aside0.mk ((by rw [hg]; exact (keep_size (w := w) (g := g) (row := none) (kA_ HK.out)) : w.heap.size ≤ gb306)); have n9_ := Aside0.mk ((Nat.le_trans HW0.out (by rw [hg]; exact (keep_size (w := w) (g := g) (row := none) (kA_ HK.out)) : w.heap.size ≤ gb306) : w0.heap.size ≤ gb306)); have n10_ := Aside0.mk ((by rw [hg]; exact Nat.ne_of_lt (blkLt (g := gb285)) : gb285 ≠ gb306)); have n11_ := Aside0.mk ((by rw [hg]; exact Nat.ne_of_gt (blkLt (g := gb285)) : gb306 ≠ gb285)); have n12_ := Aside0.mk ((by rw [hg]; exact Nat.ne_of_lt (blkLt (g := gb298)) : gb298 ≠ gb306)); have n13_ := Aside0.mk ((by rw [hg]; exact Nat.ne_of_gt (blkLt (g := gb298)) : gb306 ≠ gb298)); have n14_ := Aside0.mk ((by rw [hg]; exact Nat.ne_of_lt (IsS98.lt (show IsS98 w0 _ g s0_0 x1001_40 x1002_40 from by exact isAll)) : g ≠ gb306)); have n15_ := Aside0.mk ((by rw [hg]; exact Nat.ne_of_gt (IsS98.lt (show IsS98 w0 _ g s0_0 x1001_40 x1002_40 from by exact isAll)) : gb306 ≠ g)); clear HO_5; clear HO_286002; clear BK285; clear BK298; clear HI0; clear HK; clear HB; have HO_5 := n0_; have HO_286002 := n1_; have BK285 := n2_; have BK298 := n3_; have HI0 := n4_; have HK := n5_; have HB := n6_; have BK306 := n7_; have GW306 := n8_; have GE306 := n9_; have NB285_306 := n10_; have NB306_285 := n11_; have NB298_306 := n12_; have NB306_298 := n13_; have NB0_306 := n14_; have NB306_0 := n15_; clear n0_ n1_ n2_ n3_ n4_ n5_ n6_ n7_ n8_ n9_ n10_ n11_ n12_ n13_ n14_ n15_; clear hb hbox hg; have ⟨hnb84, hnc84⟩ := nn9_ NB306_285.out; have ⟨hnb85, hnc85⟩ := nn9_ NB306_298.out; have ⟨hnb86, hnc86⟩ := nn9_ NB306_0.out; have hcz87_0 := cz9_ BK306.out 0 rfl; have hcz87_1 := cz9_ BK306.out 1 rfl; have hcz87_2 := cz9_ BK306.out 2 rfl; have hfz87_0 := blk_frozen BK306.out 0; have hfz87_1 := blk_frozen BK306.out 1; have hfz87_2 := blk_frozen BK306.out 2; obtain ⟨Ao88, co88, eo88⟩ := Kd.R_slice HO_286002.out; subst eo88))
            have n0_ : Aside0 (Kd.S k43 43 (((w83.setCell ⟨gb306, 0, none⟩ (.bool x286000_2)).setCell ⟨gb306, 1, none⟩ (.bool x286001_2)).setCell ⟨gb306, 2, none⟩ (.slice Ao88 x286002_2.length co88)) w.heap.size (fun k_ => some k_ ≠ (.slice Ao88 x286002_2.length co88 : Value).ownBlock ∧ k_ ≠ gb285 ∧ k_ ≠ gb298 ∧ k_ ≠ gb306) u5 x5_1) := ⟨by (with_reducible repeat (first | apply Kd.S_alloc | apply Kd.S_drewN | apply Kd.S_drew)); exact Kd.S_mono (Kd.S_far (p := ⟨gb306, 2, none⟩) (Kd.S_far (p := ⟨gb306, 1, none⟩) (Kd.S_far (p := ⟨gb306, 0, none⟩) (Kd.S_mono HO_5.out (fun k_ hk => (⟨hk, hk.2⟩ : _ ∧ k_ ≠ gb306))) (fun _ hk => hk.2) (.bool x286000_2)) (fun _ hk => hk.2) (.bool x286001_2)) (fun _ hk => hk.2) (.slice Ao88 x286002_2.length co88)) (fun _ hk => ⟨hk.1.1.1, ⟨hk.1.1.2.1, ⟨hk.1.1.2.2, hk.1.2⟩⟩⟩)⟩
            have n1_ : Aside0 (Kd.R k45 45 (((w83.setCell ⟨gb306, 0, none⟩ (.bool x286000_2)).setCell ⟨gb306, 1, none⟩ (.bool x286001_2)).setCell ⟨gb306, 2, none⟩ (.slice Ao88 x286002_2.length co88)) w.heap.size (fun k_ => k_ ≠ gb298) (.slice Ao88 x286002_2.length co88) x286002_2) := ⟨by (with_reducible repeat (first | apply Kd.R_alloc | apply Kd.R_drewN | apply Kd.R_drew)); exact Kd.R_mono (Kd.R_far (p := ⟨gb306, 2, none⟩) (Kd.R_far (p := ⟨gb306, 1, none⟩) (Kd.R_far (p := ⟨gb306, 0, none⟩) (Kd.R_types HO_286002.out BK306.out (by decide)) (fun _ hk => hk.2) (.bool x286000_2)) (fun _ hk => hk.2) (.bool x286001_2)) (fun _ hk => hk.2) (.slice Ao88 x286002_2.length co88)) (fun _ hk => hk.1)⟩
            have n2_ : Aside0 ((((w83.setCell ⟨gb306, 0, none⟩ (.bool x286000_2)).setCell ⟨gb306, 1, none⟩ (.bool x286001_2)).setCell ⟨gb306, 2, none⟩ (.slice Ao88 x286002_2.length co88)).heap[gb285]? = some (.cells #[.bool x286000_2, .bool x286001_2, .slice Ao88 x286002_2.length co88] 43 (0, 0))) := ⟨blkFars⟩; have n3_ : Aside0 ((((w83.setCell ⟨gb306, 0, none⟩ (.bool x286000_2)).setCell ⟨gb306, 1, none⟩ (.bool x286001_2)).setCell ⟨gb306, 2, none⟩ (.slice Ao88 x286002_2.length co88)).heap[gb298]? = some (.cells #[.int .i64 x299000_34, .int .i64 x299001_40] 45 (0, 0))) := ⟨blkFars⟩
            have n4_ : Aside0 ((((w83.setCell ⟨gb306, 0, none⟩ (.bool x286000_2)).setCell ⟨gb306, 1, none⟩ (.bool x286001_2)).setCell ⟨gb306, 2, none⟩ (.slice Ao88 x286002_2.length co88)).heap[gb306]? = some (.cells #[.bool x286000_2, .bool x286001_2, .slice Ao88 x286002_2.length co88] 43 (0, 0))) := ⟨by (with_reducible repeat (first | refine blk_drewN ?_ _ | refine blk_drew ?_ | refine blk_alloc ?_ _)); refine blk_put (cs := #[.bool x286000_2, .bool x286001_2, .slice none 0 0]) ?_ 2 _ rfl; (with_reducible repeat (first | refine blk_drewN ?_ _ | refine blk_drew ?_ | refine blk_alloc ?_ _)); refine blk_put (cs := #[.bool x286000_2, .bool false, .slice none 0 0]) ?_ 1 _ rfl; (with_reducible repeat (first | refine blk_drewN ?_ _ | refine blk_drew ?_ | refine blk_alloc ?_ _)); refine blk_put (cs := #[.bool false, .bool false, .slice none 0 0]) ?_ 0 _ rfl; (with_reducible repeat (first | refine blk_drewN ?_ _ | refine blk_drew ?_ | refine blk_alloc ?_ _)); exact BK306.out⟩
            have n5_ : Aside0 (IsS98 w0 (((w83.setCell ⟨gb306, 0, none⟩ (.bool x286000_2)).setCell ⟨gb306, 1, none⟩ (.bool x286001_2)).setCell ⟨gb306, 2, none⟩ (.slice Ao88 x286002_2.length co88)) g s0_0 x1001_40 x1002_40) := ⟨by exact isAll⟩
            have n6_ : Aside0 (KeepBut w (((w83.setCell ⟨gb306, 0, none⟩ (.bool x286000_2)).setCell ⟨gb306, 1, none⟩ (.bool x286001_2)).setCell ⟨gb306, 2, none⟩ (.slice Ao88 x286002_2.length co88)) g none) := ⟨by exact (kA_ HK.out)⟩
            have n7_ : Aside0 (Below w0.heap.size w0 (((w83.setCell ⟨gb306, 0, none⟩ (.bool x286000_2)).setCell ⟨gb306, 1, none⟩ (.bool x286001_2)).setCell ⟨gb306, 2, none⟩ (.slice Ao88 x286002_2.length co88))) := ⟨by exact belowAll⟩
            (try clear HO_5); (try clear HO_286002); (try clear BK285); (try clear BK298); (try clear BK306); (try clear HI0); (try clear HK); (try clear HB)
            generalize (((w83.setCell ⟨gb306, 0, none⟩ (.bool x286000_2)).setCell ⟨gb306, 1, none⟩ (.bool x286001_2)).setCell ⟨gb306, 2, none⟩ (.slice Ao88 x286002_2.length co88)) = w89 at n0_ n1_ n2_ n3_ n4_ n5_ n6_ n7_ ⊢
            have HO_5 := n0_; have HO_286002 := n1_; have BK285 := n2_; have BK298 := n3_; have BK306 := n4_; have HI0 := n5_; have HK := n6_; have HB := n7_; clear n0_ n1_ n2_ n3_ n4_ n5_ n6_ n7_; have n0_ := Aside0.mk (Kd.S_drew HO_5.out); have n1_ := Aside0.mk (Kd.R_drew HO_286002.out); have n2_ := Aside0.mk (blk_drew BK285.out); have n3_ := Aside0.mk (blk_drew BK298.out); have n4_ := Aside0.mk (blk_drew BK306.out); have n5_ := Aside0.mk (IsS98.drew HI0.out); have n6_ := Aside0.mk (keep_drew HK.out); have n7_ := Aside0.mk (below_drew1 HB.out); clear HO_5 HO_286002 BK285 BK298 BK306 HI0 HK HB; have HO_5 := n0_; have HO_286002 := n1_; have BK285 := n2_; have BK298 := n3_; have BK306 := n4_; have HI0 := n5_; have HK := n6_; have HB := n7_; clear n0_ n1_ n2_ n3_ n4_ n5_ n6_ n7_
            refine start_ (n := 9) (S := fun w' => w'.cell? ⟨gb285, 0, none⟩ = some (.bool x286000_2) ∧ w'.cell? ⟨gb285, 1, none⟩ = some (.bool x286001_2) ∧ w'.cell? ⟨gb285, 2, none⟩ = some (.slice Ao88 x286002_2.length co88) ∧ w'.cell? ⟨gb298, 0, none⟩ = some (.int .i64 x299000_34) ∧ w'.cell? ⟨gb298, 1, none⟩ = some (.int .i64 x299001_40)) (ds := []) #[false, false, false, false, false, false, false, false, false] (by kernel_rfl) rfl rfl ⟨(blk_cell BK285.out 0).trans rfl, (blk_cell BK285.out 1).trans rfl, (blk_cell BK285.out 2).trans rfl, (blk_cell BK298.out 0).trans rfl, (blk_cell BK298.out 1).trans rfl⟩ (fun hHeld => ?_); refine with_tabW spec_l7Draw.tab15 spec_l7Draw.bits15 (fun HT_ HW_ => ?_)
            generalize w89.drew = w90 at HO_5 HO_286002 BK285 BK298 BK306 HI0 HK HB hHeld ⊢
            refine pure_ (i := 1) (N := some 50) (v := ?_) (a' := ?_) #[false, true, false, false, false, false, false, false, false] rfl rfl (any_of HT_.out (by kernel_rfl)) (fun _ _ _ h => h) (Or.inl ⟨by rfl, ?_⟩) ?_ ?_
            rotate_left
            ·intro w'
             go_simp
             with_reducible rfl
            rotate_left
            ·simp only [Act.put, List.setIfInBounds_toArray, List.set_cons_zero, List.set_cons_succ, i64_w, i32_w]
             rfl
            refine take_ (i := 2) (N := some 51) (v := ?_) (a' := ?_) #[false, true, true, false, false, false, false, false, false] rfl rfl (take_ofW HT_.out HW_.out (by kernel_rfl)) (fun _ _ _ h => h) (Or.inl ⟨by rfl, ?_⟩) hHeld ?_ ?_
            rotate_left
            ·rintro w' ⟨s0, s1, s2, s3, s4⟩
             go_simp
             with_reducible rfl
            rotate_left
            ·simp only [Act.put, List.setIfInBounds_toArray, List.set_cons_zero, List.set_cons_succ, i64_w, i32_w]
             rfl
            refine take_ (i := 4) (N := some 53) (v := ?_) (a' := ?_) #[false, true, true, false, true, false, false, false, false] rfl rfl (take_ofW HT_.out HW_.out (by kernel_rfl)) (fun _ _ _ h => h) (Or.inl ⟨by rfl, ?_⟩) hHeld ?_ ?_
            rotate_left
            ·rintro w' ⟨s0, s1, s2, s3, s4⟩
             go_simp
             with_reducible rfl
            rotate_left
            ·simp only [Act.put, List.setIfInBounds_toArray, List.set_cons_zero, List.set_cons_succ, i64_w, i32_w]
             rfl
            refine join_ (σ := Value × Value × Value) 3 #[true, true, true, true, true, true, false, false, false] (fun s_ => [(49, s_.1), (52, s_.2.1), (54, s_.2.2)]) (fun s_ w' => (w'.cell? ⟨gb285, 0, none⟩ = some (.bool x286000_2) ∧ w'.cell? ⟨gb285, 1, none⟩ = some (.bool x286001_2) ∧ w'.cell? ⟨gb285, 2, none⟩ = some (.slice Ao88 x286002_2.length co88) ∧ w'.cell? ⟨gb298, 0, none⟩ = some (.int .i64 x299000_34) ∧ w'.cell? ⟨gb298, 1, none⟩ = some (.int .i64 x299001_40)) ∧ (Kd.R k45 45 w' w.heap.size (fun k_ => some k_ ≠ (s_.2.2 : Value).ownBlock ∧ some k_ ≠ (.slice Ao88 x286002_2.length co88 : Value).ownBlock ∧ k_ ≠ gb298) s_.2.1 y310) ∧ (Kd.R k45 45 w' w.heap.size (fun k_ => some k_ ≠ (s_.2.1 : Value).ownBlock ∧ some k_ ≠ (.slice Ao88 x286002_2.length co88 : Value).ownBlock ∧ k_ ≠ gb298) s_.2.2 y313) ∧ (Kd.R k45 45 w' w.heap.size (fun k_ => some k_ ≠ (s_.2.1 : Value).ownBlock ∧ some k_ ≠ (s_.2.2 : Value).ownBlock ∧ k_ ≠ gb298) (.slice Ao88 x286002_2.length co88) x286002_2) ∧ (Kd.S k43 43 w' w.heap.size (fun k_ => some k_ ≠ (s_.2.1 : Value).ownBlock ∧ some k_ ≠ (s_.2.2 : Value).ownBlock ∧ some k_ ≠ (.slice Ao88 x286002_2.length co88 : Value).ownBlock ∧ k_ ≠ gb285 ∧ k_ ≠ gb298 ∧ k_ ≠ gb306) u5 x5_1) ∧ (w'.heap[gb285]? = some (.cells #[.bool x286000_2, .bool x286001_2, .slice Ao88 x286002_2.length co88] 43 (0, 0))) ∧ (w'.heap[gb298]? = some (.cells #[.int .i64 x299000_34, .int .i64 x299001_40] 45 (0, 0))) ∧ (w'.heap[gb306]? = some (.cells #[.bool x286000_2, .bool x286001_2, .slice Ao88 x286002_2.length co88] 43 (0, 0))) ∧ (IsS98 w0 w' g s0_0 x1001_40 x1002_40) ∧ (KeepBut w w' g none) ∧ (Below w0.heap.size w0 w')) ?_ ?_
            rotate_left
            ·intro hCont
             refine two_ (i := 0) (j := 5) (Ni := some 49) (Nj := some 54) #[true, true, true, false, true, false, false, false, false] #[false, true, true, false, true, true, false, false, false] rfl rfl rfl rfl (two_of HT_.out (by kernel_rfl)) (by decide) (by decide) (fun K hK => ?_) (fun K hK => ?_)
             ·skip
              refine Kd.R_lit_step k45 _ 45 ?hg (N := 49) ?hd (xs := ([] : List (S45))) (inner := []) (ok := fun _ => True) (okp := fun _ => True) ?hr ?hp (fun _ hk => hk) trivial (Below.refl _ _) (Nat.le_refl _) (by simp) ?_; (case hd => rfl); (case hg => rfl); (case hr => first | (go_simp; done) | (go_simp; rfl)); (case hp => exact (Reps.none _ _))
              intro v308 w91 ho92 hb hg_ hnew_
              clear hg_ hnew_
              (first | rw [← Ny307.out] at ho92 | (simp only [Int.reduceToNat] at ho92; rw [← Ny307.out] at ho92))
              have n0_ := Aside0.mk (Kd.S_elder' (pS_ HO_5.out) (Kd.R_base ho92) hb)
              have n1_ := Aside0.mk (Kd.R_elder' (pR_ HO_286002.out) (Kd.R_base ho92) hb)
              have n2_ := Aside0.mk (Kd.R_lower (Kd.R_newB (Kd.R_new' ho92 (Kd.R_lt (pR_ HO_286002.out))) (g := gb298) (o := .cells #[.int .i64 x299000_34, .int .i64 x299001_40] 45 (0, 0)) blkNow) (keep_size (w := w) (g := g) (row := none) (kA_ HK.out)))
              have n3_ := Aside0.mk (blkStep (g := gb285) hb); have n4_ := Aside0.mk (blkStep (g := gb298) hb)
              have n5_ := Aside0.mk (IsS98.below isAll hb)
              have n6_ := Aside0.mk (blkStep (g := gb306) hb)
              have n7_ := Aside0.mk (KeepBut.trans (kA_ HK.out) (KeepBut.of_below hb g none) (.inl rfl))
              have n8_ := Aside0.mk (below_step belowAll hb)
              clear HO_5 HO_286002 BK285 BK298 HI0 BK306 HK HB; have HO_5 := n0_; have HO_286002 := n1_; have HO309 := n2_; have BK285 := n3_; have BK298 := n4_; have HI0 := n5_; have BK306 := n6_; have HK := n7_; have HB := n8_; clear n0_ n1_ n2_ n3_ n4_ n5_ n6_ n7_ n8_ hb ho92
              refine hK.out _ _ ⟨(blk_cell BK285.out 0).trans rfl, (blk_cell BK285.out 1).trans rfl, (blk_cell BK285.out 2).trans rfl, (blk_cell BK298.out 0).trans rfl, (blk_cell BK298.out 1).trans rfl⟩ (fun hHeld => ?_)
              clear hK K
              refine norm_ (a' := ?_) ?_ ?_
              rotate_left
              ·show Act.put _ (some 49) _ = _
               simp only [Act.put, List.setIfInBounds_toArray, List.set_cons_zero, List.set_cons_succ, i64_w, i32_w]
               rfl
              refine two_ (i := 3) (j := 5) (Ni := some 52) (Nj := some 54) #[true, true, true, true, true, false, false, false, false] #[true, true, true, false, true, true, false, false, false] rfl rfl rfl rfl (two_of HT_.out (by kernel_rfl)) (by decide) (by decide) (fun K hK => ?_) (fun K hK => ?_)
              ·skip
               refine Kd.R_append_rows_step k45 w.heap.size (by rfl) (.tmp 49) (.tmp 51) 41 45 (.agg #[(.int .i64 0), (.int .i64 0)]) 16 rfl Try.underlying41 info45 rfl (by decide) (by omega) v308 y307 x286002_2 _ _ _ (fun k_ => some k_ ≠ (.slice Ao88 x286002_2.length co88 : Value).ownBlock ∧ k_ ≠ gb298) (fun _ => False) rfl rfl ?aO ?aR (fun _ _ h => h) (fun _ h => h.elim) ?aF (Below.refl _ _) ?aS ?aL ?_
               (case aR => repeat (first | exact (Kd.R_reads' HO_286002.out).2.2 | (with_reducible refine Kd.C_alloc ?_ _) | (with_reducible refine Kd.C_drewN ?_ _) | (with_reducible refine Kd.C_drew ?_)))
               (case aF => exact (fun k_ hk => ⟨Kd.fresh' (Kd.R_lt (pR_ HO_286002.out)) k_ hk, Kd.freshB (g := gb298) (o := .cells #[.int .i64 x299000_34, .int .i64 x299001_40] 45 (0, 0)) blkNow k_ hk⟩))
               (case aO => exact (by (with_reducible repeat (first | apply Kd.R_alloc | apply Kd.R_drewN | apply Kd.R_drew)); exact Kd.R_mono HO309.out (fun _ hk => ⟨hk.1.2, hk.2⟩)))
               (case aS => exact (keep_size (w := w) (g := g) (row := none) (kA_ HK.out)))
               (case aL => have := LMc51.out; omega)
               intro v311 w93 ho hb hg hat
               rw [← Ny310.out] at ho
               have n0_ := Aside0.mk (Kd.S_after (ok := (fun k_ => some k_ ≠ (.slice Ao88 x286002_2.length co88 : Value).ownBlock ∧ k_ ≠ gb285 ∧ k_ ≠ gb298 ∧ k_ ≠ gb306)) (pS_ HO_5.out) hg hat)
               have n1_ := Aside0.mk (Kd.R_after (ok := (fun k_ => k_ ≠ gb298)) (pR_ HO_286002.out) hg hat)
               have n2_ := Aside0.mk (blk_grown (g := gb285) (o := .cells #[.bool x286000_2, .bool x286001_2, .slice Ao88 x286002_2.length co88] 43 (0, 0)) blkNow hg (Kd.R_ne HO309.out BK285.out (by decide)))
               have n3_ := Aside0.mk (blk_grown (g := gb298) (o := .cells #[.int .i64 x299000_34, .int .i64 x299001_40] 45 (0, 0)) blkNow hg (Kd.R_away HO309.out (fun _ hk => hk.2)))
               have n4_ := Aside0.mk (IsS98.grown isAll hg (IsS98.own_ne HI0.out HO309.out (by decide)))
               have n5_ := Aside0.mk (blk_grown (g := gb306) (o := .cells #[.bool x286000_2, .bool x286001_2, .slice Ao88 x286002_2.length co88] 43 (0, 0)) blkNow hg (Kd.R_ne HO309.out BK306.out (by decide)))
               have n6_ := Aside0.mk (below_weaken (by exact belowAll) HL.out hb)
               have n7_ := Aside0.mk (KeepBut.trans (kA_ HK.out) (KeepBut.of_grown hg g) (Kd.R_base2 HO309.out))
               have n8_ := Aside0.mk (ho); clear HO_5 HO_286002 BK285 BK298 HI0 BK306 HB HK HO309; have HO_5 := n0_; have HO_286002 := n1_; have BK285 := n2_; have BK298 := n3_; have HI0 := n4_; have BK306 := n5_; have HB := n6_; have HK := n7_; have HO312 := n8_; clear n0_ n1_ n2_ n3_ n4_ n5_ n6_ n7_ n8_ ho hb hg hat
               refine hK.out _ _ ⟨(blk_cell BK285.out 0).trans rfl, (blk_cell BK285.out 1).trans rfl, (blk_cell BK285.out 2).trans rfl, (blk_cell BK298.out 0).trans rfl, (blk_cell BK298.out 1).trans rfl⟩ (fun hHeld => ?_)
               clear hK K
               refine norm_ (a' := ?_) ?_ ?_
               rotate_left
               ·show Act.put _ (some 52) _ = _
                simp only [Act.put, List.setIfInBounds_toArray, List.set_cons_zero, List.set_cons_succ, i64_w, i32_w]
                rfl
               refine one_ (i := 5) (N := some 54) #[true, true, true, true, true, true, false, false, false] rfl rfl (one_of HT_.out (by kernel_rfl)) (by decide) (fun K hK => ?_)
               refine Kd.R_lit_step k45 _ 45 ?hg (N := 54) ?hd (xs := ([(⟨x299000_34, x299001_40⟩ : S45)] : List (S45))) (inner := [.int .i64 x299000_34, .int .i64 x299001_40]) (ok := fun _ => True) (okp := fun _ => True) ?hr ?hp (fun _ hk => hk) trivial (Below.refl _ _) (Nat.le_refl _) (by simp) ?_; (case hd => rfl); (case hg => rfl); (case hr => first | (go_simp; done) | (go_simp; rfl)); (case hp => exact (Reps.c2 (show Kd.M k45 _ _ _ (⟨x299000_34, x299001_40⟩ : S45) [.int .i64 x299000_34, .int .i64 x299001_40] from (k45_mkM _ _ _ (⟨x299000_34, x299001_40⟩ : S45) )) (Reps.none _ _)))
               intro v314 w94 ho95 hb hg_ hnew_
               clear hg_ hnew_
               (first | rw [← Ny313.out] at ho95 | (simp only [Int.reduceToNat] at ho95; rw [← Ny313.out] at ho95))
               have n0_ := Aside0.mk (Kd.S_elder' (pS_ HO_5.out) (Kd.R_base ho95) hb)
               have n1_ := Aside0.mk (Kd.R_elder' (pR_ HO_286002.out) (Kd.R_base ho95) hb)
               have n2_ := Aside0.mk (Kd.R_elder' (pR_ HO312.out) (Kd.R_base ho95) hb)
               have n3_ := Aside0.mk (Kd.R_lower (Kd.R_newB (Kd.R_new' (Kd.R_new' ho95 (Kd.R_lt (pR_ HO_286002.out))) (Kd.R_lt (pR_ HO312.out))) (g := gb298) (o := .cells #[.int .i64 x299000_34, .int .i64 x299001_40] 45 (0, 0)) blkNow) (keep_size (w := w) (g := g) (row := none) (kA_ HK.out)))
               have n4_ := Aside0.mk (blkStep (g := gb285) hb); have n5_ := Aside0.mk (blkStep (g := gb298) hb)
               have n6_ := Aside0.mk (IsS98.below isAll hb)
               have n7_ := Aside0.mk (blkStep (g := gb306) hb)
               have n8_ := Aside0.mk (KeepBut.trans (kA_ HK.out) (KeepBut.of_below hb g none) (.inl rfl))
               have n9_ := Aside0.mk (below_step belowAll hb)
               clear HO_5 HO_286002 HO312 BK285 BK298 HI0 BK306 HK HB; have HO_5 := n0_; have HO_286002 := n1_; have HO312 := n2_; have HO315 := n3_; have BK285 := n4_; have BK298 := n5_; have HI0 := n6_; have BK306 := n7_; have HK := n8_; have HB := n9_; clear n0_ n1_ n2_ n3_ n4_ n5_ n6_ n7_ n8_ n9_ hb ho95
               refine hK.out _ _ ⟨(blk_cell BK285.out 0).trans rfl, (blk_cell BK285.out 1).trans rfl, (blk_cell BK285.out 2).trans rfl, (blk_cell BK298.out 0).trans rfl, (blk_cell BK298.out 1).trans rfl⟩ (fun hHeld => ?_)
               clear hK K
               refine norm_ (a' := ?_) ?_ ?_
               rotate_left
               ·show Act.put _ (some 54) _ = _
                simp only [Act.put, List.setIfInBounds_toArray, List.set_cons_zero, List.set_cons_succ, i64_w, i32_w]
                rfl
               exact norm_ (by simp only [putAll, Act.put, List.setIfInBounds_toArray, List.set_cons_zero, List.set_cons_succ]) (hCont (v308, v311, v314) _ ⟨hHeld, (by (with_reducible repeat (first | apply Kd.R_alloc | apply Kd.R_drewN | apply Kd.R_drew)); exact Kd.R_mono HO312.out (fun _ hk => ⟨hk.2, ⟨hk.1.1, hk.1.2⟩⟩)), (by (with_reducible repeat (first | apply Kd.R_alloc | apply Kd.R_drewN | apply Kd.R_drew)); exact Kd.R_mono HO315.out (fun _ hk => ⟨hk.1.2, ⟨hk.1.1.2, hk.2⟩⟩)), (by (with_reducible repeat (first | apply Kd.R_alloc | apply Kd.R_drewN | apply Kd.R_drew)); exact Kd.R_mono HO_286002.out (fun _ hk => ⟨hk.1.2, ⟨hk.2, hk.1.1⟩⟩)), (by (with_reducible repeat (first | apply Kd.S_alloc | apply Kd.S_drewN | apply Kd.S_drew)); exact Kd.S_mono HO_5.out (fun _ hk => ⟨hk.1.2, ⟨hk.2, ⟨hk.1.1.1, ⟨hk.1.1.2.1, ⟨hk.1.1.2.2.1, hk.1.1.2.2.2⟩⟩⟩⟩⟩)), blkNow, blkNow, blkNow, isAll, (kA_ HK.out), belowAll⟩)
              ·skip
               refine Kd.R_lit_step k45 _ 45 ?hg (N := 54) ?hd (xs := ([(⟨x299000_34, x299001_40⟩ : S45)] : List (S45))) (inner := [.int .i64 x299000_34, .int .i64 x299001_40]) (ok := fun _ => True) (okp := fun _ => True) ?hr ?hp (fun _ hk => hk) trivial (Below.refl _ _) (Nat.le_refl _) (by simp) ?_; (case hd => rfl); (case hg => rfl); (case hr => first | (go_simp; done) | (go_simp; rfl)); (case hp => exact (Reps.c2 (show Kd.M k45 _ _ _ (⟨x299000_34, x299001_40⟩ : S45) [.int .i64 x299000_34, .int .i64 x299001_40] from (k45_mkM _ _ _ (⟨x299000_34, x299001_40⟩ : S45) )) (Reps.none _ _)))
               intro v314 w93 ho94 hb hg_ hnew_
               clear hg_ hnew_
               (first | rw [← Ny313.out] at ho94 | (simp only [Int.reduceToNat] at ho94; rw [← Ny313.out] at ho94))
               have n0_ := Aside0.mk (Kd.S_elder' (pS_ HO_5.out) (Kd.R_base ho94) hb)
               have n1_ := Aside0.mk (Kd.R_elder' (pR_ HO_286002.out) (Kd.R_base ho94) hb)
               have n2_ := Aside0.mk (Kd.R_elder' (pR_ HO309.out) (Kd.R_base ho94) hb)
               have n3_ := Aside0.mk (Kd.R_lower (Kd.R_newB (Kd.R_new' (Kd.R_new' ho94 (Kd.R_lt (pR_ HO_286002.out))) (Kd.R_lt (pR_ HO309.out))) (g := gb298) (o := .cells #[.int .i64 x299000_34, .int .i64 x299001_40] 45 (0, 0)) blkNow) (keep_size (w := w) (g := g) (row := none) (kA_ HK.out)))
               have n4_ := Aside0.mk (blkStep (g := gb285) hb); have n5_ := Aside0.mk (blkStep (g := gb298) hb)
               have n6_ := Aside0.mk (IsS98.below isAll hb)
               have n7_ := Aside0.mk (blkStep (g := gb306) hb)
               have n8_ := Aside0.mk (KeepBut.trans (kA_ HK.out) (KeepBut.of_below hb g none) (.inl rfl))
               have n9_ := Aside0.mk (below_step belowAll hb)
               clear HO_5 HO_286002 HO309 BK285 BK298 HI0 BK306 HK HB; have HO_5 := n0_; have HO_286002 := n1_; have HO309 := n2_; have HO315 := n3_; have BK285 := n4_; have BK298 := n5_; have HI0 := n6_; have BK306 := n7_; have HK := n8_; have HB := n9_; clear n0_ n1_ n2_ n3_ n4_ n5_ n6_ n7_ n8_ n9_ hb ho94
               refine hK.out _ _ ⟨(blk_cell BK285.out 0).trans rfl, (blk_cell BK285.out 1).trans rfl, (blk_cell BK285.out 2).trans rfl, (blk_cell BK298.out 0).trans rfl, (blk_cell BK298.out 1).trans rfl⟩ (fun hHeld => ?_)
               clear hK K
               refine norm_ (a' := ?_) ?_ ?_
               rotate_left
               ·show Act.put _ (some 54) _ = _
                simp only [Act.put, List.setIfInBounds_toArray, List.set_cons_zero, List.set_cons_succ, i64_w, i32_w]
                rfl
               refine one_ (i := 3) (N := some 52) #[true, true, true, true, true, true, false, false, false] rfl rfl (one_of HT_.out (by kernel_rfl)) (by decide) (fun K hK => ?_)
               refine Kd.R_append_rows_step k45 w.heap.size (by rfl) (.tmp 49) (.tmp 51) 41 45 (.agg #[(.int .i64 0), (.int .i64 0)]) 16 rfl Try.underlying41 info45 rfl (by decide) (by omega) v308 y307 x286002_2 _ _ _ (fun k_ => some k_ ≠ (.slice Ao88 x286002_2.length co88 : Value).ownBlock ∧ some k_ ≠ (v314 : Value).ownBlock ∧ k_ ≠ gb298) (fun _ => False) rfl rfl ?aO ?aR (fun _ _ h => h) (fun _ h => h.elim) ?aF (Below.refl _ _) ?aS ?aL ?_
               (case aR => repeat (first | exact (Kd.R_reads' HO_286002.out).2.2 | (with_reducible refine Kd.C_alloc ?_ _) | (with_reducible refine Kd.C_drewN ?_ _) | (with_reducible refine Kd.C_drew ?_)))
               (case aF => exact (fun k_ hk => ⟨Kd.fresh' (Kd.R_lt (pR_ HO_286002.out)) k_ hk, Kd.fresh' (Kd.R_lt (pR_ HO315.out)) k_ hk, Kd.freshB (g := gb298) (o := .cells #[.int .i64 x299000_34, .int .i64 x299001_40] 45 (0, 0)) blkNow k_ hk⟩))
               (case aO => exact (by (with_reducible repeat (first | apply Kd.R_alloc | apply Kd.R_drewN | apply Kd.R_drew)); exact Kd.R_mono HO309.out (fun _ hk => ⟨hk.1.1.2, ⟨hk.2, hk.1.2⟩⟩)))
               (case aS => exact (keep_size (w := w) (g := g) (row := none) (kA_ HK.out)))
               (case aL => have := LMc51.out; omega)
               intro v311 w95 ho hb hg hat
               rw [← Ny310.out] at ho
               have n0_ := Aside0.mk (Kd.S_after (ok := (fun k_ => some k_ ≠ (.slice Ao88 x286002_2.length co88 : Value).ownBlock ∧ some k_ ≠ (v314 : Value).ownBlock ∧ k_ ≠ gb285 ∧ k_ ≠ gb298 ∧ k_ ≠ gb306)) (by (with_reducible repeat (first | apply Kd.S_alloc | apply Kd.S_drewN | apply Kd.S_drew)); exact Kd.S_mono HO_5.out (fun _ hk => ⟨⟨hk.1.1.1, ⟨hk.2, ⟨hk.1.1.2.1, ⟨hk.1.1.2.2.1, hk.1.1.2.2.2⟩⟩⟩⟩, hk.1.2⟩)) hg hat)
               have n1_ := Aside0.mk (Kd.R_after (ok := (fun k_ => some k_ ≠ (v314 : Value).ownBlock ∧ k_ ≠ gb298)) (by (with_reducible repeat (first | apply Kd.R_alloc | apply Kd.R_drewN | apply Kd.R_drew)); exact Kd.R_mono HO_286002.out (fun _ hk => ⟨⟨hk.2, hk.1.1⟩, hk.1.2⟩)) hg hat)
               have n2_ := Aside0.mk (blk_grown (g := gb285) (o := .cells #[.bool x286000_2, .bool x286001_2, .slice Ao88 x286002_2.length co88] 43 (0, 0)) blkNow hg (Kd.R_ne HO309.out BK285.out (by decide)))
               have n3_ := Aside0.mk (blk_grown (g := gb298) (o := .cells #[.int .i64 x299000_34, .int .i64 x299001_40] 45 (0, 0)) blkNow hg (Kd.R_away HO309.out (fun _ hk => hk.1.2)))
               have n4_ := Aside0.mk (IsS98.grown isAll hg (IsS98.own_ne HI0.out HO309.out (by decide)))
               have n5_ := Aside0.mk (blk_grown (g := gb306) (o := .cells #[.bool x286000_2, .bool x286001_2, .slice Ao88 x286002_2.length co88] 43 (0, 0)) blkNow hg (Kd.R_ne HO309.out BK306.out (by decide)))
               have n6_ := Aside0.mk (Kd.R_after (ok := (fun k_ => some k_ ≠ (.slice Ao88 x286002_2.length co88 : Value).ownBlock ∧ k_ ≠ gb298)) (by (with_reducible repeat (first | apply Kd.R_alloc | apply Kd.R_drewN | apply Kd.R_drew)); exact Kd.R_mono HO315.out (fun _ hk => ⟨⟨hk.1.1.2, hk.2⟩, hk.1.2⟩)) hg hat)
               have n7_ := Aside0.mk (below_weaken (by exact belowAll) HL.out hb)
               have n8_ := Aside0.mk (KeepBut.trans (kA_ HK.out) (KeepBut.of_grown hg g) (Kd.R_base2 HO309.out))
               have n9_ := Aside0.mk (ho); clear HO_5 HO_286002 BK285 BK298 HI0 BK306 HO315 HB HK HO309; have HO_5 := n0_; have HO_286002 := n1_; have BK285 := n2_; have BK298 := n3_; have HI0 := n4_; have BK306 := n5_; have HO315 := n6_; have HB := n7_; have HK := n8_; have HO312 := n9_; clear n0_ n1_ n2_ n3_ n4_ n5_ n6_ n7_ n8_ n9_ ho hb hg hat
               refine hK.out _ _ ⟨(blk_cell BK285.out 0).trans rfl, (blk_cell BK285.out 1).trans rfl, (blk_cell BK285.out 2).trans rfl, (blk_cell BK298.out 0).trans rfl, (blk_cell BK298.out 1).trans rfl⟩ (fun hHeld => ?_)
               clear hK K
               refine norm_ (a' := ?_) ?_ ?_
               rotate_left
               ·show Act.put _ (some 52) _ = _
                simp only [Act.put, List.setIfInBounds_toArray, List.set_cons_zero, List.set_cons_succ, i64_w, i32_w]
                rfl
               exact norm_ (by simp only [putAll, Act.put, List.setIfInBounds_toArray, List.set_cons_zero, List.set_cons_succ]) (hCont (v308, v311, v314) _ ⟨hHeld, (by (with_reducible repeat (first | apply Kd.R_alloc | apply Kd.R_drewN | apply Kd.R_drew)); exact Kd.R_mono HO312.out (fun _ hk => ⟨hk.2.1, ⟨hk.1, hk.2.2⟩⟩)), (by (with_reducible repeat (first | apply Kd.R_alloc | apply Kd.R_drewN | apply Kd.R_drew)); exact Kd.R_mono HO315.out (fun _ hk => ⟨hk.2, ⟨hk.1.1, hk.1.2⟩⟩)), (by (with_reducible repeat (first | apply Kd.R_alloc | apply Kd.R_drewN | apply Kd.R_drew)); exact Kd.R_mono HO_286002.out (fun _ hk => ⟨hk.2, ⟨hk.1.1, hk.1.2⟩⟩)), (by (with_reducible repeat (first | apply Kd.S_alloc | apply Kd.S_drewN | apply Kd.S_drew)); exact Kd.S_mono HO_5.out (fun _ hk => ⟨hk.2, ⟨hk.1.2.1, ⟨hk.1.1, ⟨hk.1.2.2.1, ⟨hk.1.2.2.2.1, hk.1.2.2.2.2⟩⟩⟩⟩⟩)), blkNow, blkNow, blkNow, isAll, (kA_ HK.out), belowAll⟩)
             ·skip
              refine Kd.R_lit_step k45 _ 45 ?hg (N := 54) ?hd (xs := ([(⟨x299000_34, x299001_40⟩ : S45)] : List (S45))) (inner := [.int .i64 x299000_34, .int .i64 x299001_40]) (ok := fun _ => True) (okp := fun _ => True) ?hr ?hp (fun _ hk => hk) trivial (Below.refl _ _) (Nat.le_refl _) (by simp) ?_; (case hd => rfl); (case hg => rfl); (case hr => first | (go_simp; done) | (go_simp; rfl)); (case hp => exact (Reps.c2 (show Kd.M k45 _ _ _ (⟨x299000_34, x299001_40⟩ : S45) [.int .i64 x299000_34, .int .i64 x299001_40] from (k45_mkM _ _ _ (⟨x299000_34, x299001_40⟩ : S45) )) (Reps.none _ _)))
              intro v314 w91 ho92 hb hg_ hnew_
              clear hg_ hnew_
              (first | rw [← Ny313.out] at ho92 | (simp only [Int.reduceToNat] at ho92; rw [← Ny313.out] at ho92))
              have n0_ := Aside0.mk (Kd.S_elder' (pS_ HO_5.out) (Kd.R_base ho92) hb)
              have n1_ := Aside0.mk (Kd.R_elder' (pR_ HO_286002.out) (Kd.R_base ho92) hb)
              have n2_ := Aside0.mk (Kd.R_lower (Kd.R_newB (Kd.R_new' ho92 (Kd.R_lt (pR_ HO_286002.out))) (g := gb298) (o := .cells #[.int .i64 x299000_34, .int .i64 x299001_40] 45 (0, 0)) blkNow) (keep_size (w := w) (g := g) (row := none) (kA_ HK.out)))
              have n3_ := Aside0.mk (blkStep (g := gb285) hb); have n4_ := Aside0.mk (blkStep (g := gb298) hb)
              have n5_ := Aside0.mk (IsS98.below isAll hb)
              have n6_ := Aside0.mk (blkStep (g := gb306) hb)
              have n7_ := Aside0.mk (KeepBut.trans (kA_ HK.out) (KeepBut.of_below hb g none) (.inl rfl))
              have n8_ := Aside0.mk (below_step belowAll hb)
              clear HO_5 HO_286002 BK285 BK298 HI0 BK306 HK HB; have HO_5 := n0_; have HO_286002 := n1_; have HO315 := n2_; have BK285 := n3_; have BK298 := n4_; have HI0 := n5_; have BK306 := n6_; have HK := n7_; have HB := n8_; clear n0_ n1_ n2_ n3_ n4_ n5_ n6_ n7_ n8_ hb ho92
              refine hK.out _ _ ⟨(blk_cell BK285.out 0).trans rfl, (blk_cell BK285.out 1).trans rfl, (blk_cell BK285.out 2).trans rfl, (blk_cell BK298.out 0).trans rfl, (blk_cell BK298.out 1).trans rfl⟩ (fun hHeld => ?_)
              clear hK K
              refine norm_ (a' := ?_) ?_ ?_
              rotate_left
              ·show Act.put _ (some 54) _ = _
               simp only [Act.put, List.setIfInBounds_toArray, List.set_cons_zero, List.set_cons_succ, i64_w, i32_w]
               rfl
              refine one_ (i := 0) (N := some 49) #[true, true, true, false, true, true, false, false, false] rfl rfl (one_of HT_.out (by kernel_rfl)) (by decide) (fun K hK => ?_)
              refine Kd.R_lit_step k45 _ 45 ?hg (N := 49) ?hd (xs := ([] : List (S45))) (inner := []) (ok := fun _ => True) (okp := fun _ => True) ?hr ?hp (fun _ hk => hk) trivial (Below.refl _ _) (Nat.le_refl _) (by simp) ?_; (case hd => rfl); (case hg => rfl); (case hr => first | (go_simp; done) | (go_simp; rfl)); (case hp => exact (Reps.none _ _))
              intro v308 w93 ho94 hb hg_ hnew_
              clear hg_ hnew_
              (first | rw [← Ny307.out] at ho94 | (simp only [Int.reduceToNat] at ho94; rw [← Ny307.out] at ho94))
              have n0_ := Aside0.mk (Kd.S_elder' (pS_ HO_5.out) (Kd.R_base ho94) hb)
              have n1_ := Aside0.mk (Kd.R_elder' (pR_ HO_286002.out) (Kd.R_base ho94) hb)
              have n2_ := Aside0.mk (Kd.R_elder' (pR_ HO315.out) (Kd.R_base ho94) hb)
              have n3_ := Aside0.mk (Kd.R_lower (Kd.R_newB (Kd.R_new' (Kd.R_new' ho94 (Kd.R_lt (pR_ HO_286002.out))) (Kd.R_lt (pR_ HO315.out))) (g := gb298) (o := .cells #[.int .i64 x299000_34, .int .i64 x299001_40] 45 (0, 0)) blkNow) (keep_size (w := w) (g := g) (row := none) (kA_ HK.out)))
              have n4_ := Aside0.mk (blkStep (g := gb285) hb); have n5_ := Aside0.mk (blkStep (g := gb298) hb)
              have n6_ := Aside0.mk (IsS98.below isAll hb)
              have n7_ := Aside0.mk (blkStep (g := gb306) hb)
              have n8_ := Aside0.mk (KeepBut.trans (kA_ HK.out) (KeepBut.of_below hb g none) (.inl rfl))
              have n9_ := Aside0.mk (below_step belowAll hb)
              clear HO_5 HO_286002 HO315 BK285 BK298 HI0 BK306 HK HB; have HO_5 := n0_; have HO_286002 := n1_; have HO315 := n2_; have HO309 := n3_; have BK285 := n4_; have BK298 := n5_; have HI0 := n6_; have BK306 := n7_; have HK := n8_; have HB := n9_; clear n0_ n1_ n2_ n3_ n4_ n5_ n6_ n7_ n8_ n9_ hb ho94
              refine hK.out _ _ ⟨(blk_cell BK285.out 0).trans rfl, (blk_cell BK285.out 1).trans rfl, (blk_cell BK285.out 2).trans rfl, (blk_cell BK298.out 0).trans rfl, (blk_cell BK298.out 1).trans rfl⟩ (fun hHeld => ?_)
              clear hK K
              refine norm_ (a' := ?_) ?_ ?_
              rotate_left
              ·show Act.put _ (some 49) _ = _
               simp only [Act.put, List.setIfInBounds_toArray, List.set_cons_zero, List.set_cons_succ, i64_w, i32_w]
               rfl
              refine one_ (i := 3) (N := some 52) #[true, true, true, true, true, true, false, false, false] rfl rfl (one_of HT_.out (by kernel_rfl)) (by decide) (fun K hK => ?_)
              refine Kd.R_append_rows_step k45 w.heap.size (by rfl) (.tmp 49) (.tmp 51) 41 45 (.agg #[(.int .i64 0), (.int .i64 0)]) 16 rfl Try.underlying41 info45 rfl (by decide) (by omega) v308 y307 x286002_2 _ _ _ (fun k_ => some k_ ≠ (.slice Ao88 x286002_2.length co88 : Value).ownBlock ∧ some k_ ≠ (v314 : Value).ownBlock ∧ k_ ≠ gb298) (fun _ => False) rfl rfl ?aO ?aR (fun _ _ h => h) (fun _ h => h.elim) ?aF (Below.refl _ _) ?aS ?aL ?_
              (case aR => repeat (first | exact (Kd.R_reads' HO_286002.out).2.2 | (with_reducible refine Kd.C_alloc ?_ _) | (with_reducible refine Kd.C_drewN ?_ _) | (with_reducible refine Kd.C_drew ?_)))
              (case aF => exact (fun k_ hk => ⟨Kd.fresh' (Kd.R_lt (pR_ HO_286002.out)) k_ hk, Kd.fresh' (Kd.R_lt (pR_ HO315.out)) k_ hk, Kd.freshB (g := gb298) (o := .cells #[.int .i64 x299000_34, .int .i64 x299001_40] 45 (0, 0)) blkNow k_ hk⟩))
              (case aO => exact (by (with_reducible repeat (first | apply Kd.R_alloc | apply Kd.R_drewN | apply Kd.R_drew)); exact Kd.R_mono HO309.out (fun _ hk => ⟨hk.1.1.2, ⟨hk.1.2, hk.2⟩⟩)))
              (case aS => exact (keep_size (w := w) (g := g) (row := none) (kA_ HK.out)))
              (case aL => have := LMc51.out; omega)
              intro v311 w95 ho hb hg hat
              rw [← Ny310.out] at ho
              have n0_ := Aside0.mk (Kd.S_after (ok := (fun k_ => some k_ ≠ (.slice Ao88 x286002_2.length co88 : Value).ownBlock ∧ some k_ ≠ (v314 : Value).ownBlock ∧ k_ ≠ gb285 ∧ k_ ≠ gb298 ∧ k_ ≠ gb306)) (by (with_reducible repeat (first | apply Kd.S_alloc | apply Kd.S_drewN | apply Kd.S_drew)); exact Kd.S_mono HO_5.out (fun _ hk => ⟨⟨hk.1.1.1, ⟨hk.1.2, ⟨hk.1.1.2.1, ⟨hk.1.1.2.2.1, hk.1.1.2.2.2⟩⟩⟩⟩, hk.2⟩)) hg hat)
              have n1_ := Aside0.mk (Kd.R_after (ok := (fun k_ => some k_ ≠ (v314 : Value).ownBlock ∧ k_ ≠ gb298)) (by (with_reducible repeat (first | apply Kd.R_alloc | apply Kd.R_drewN | apply Kd.R_drew)); exact Kd.R_mono HO_286002.out (fun _ hk => ⟨⟨hk.1.2, hk.1.1⟩, hk.2⟩)) hg hat)
              have n2_ := Aside0.mk (blk_grown (g := gb285) (o := .cells #[.bool x286000_2, .bool x286001_2, .slice Ao88 x286002_2.length co88] 43 (0, 0)) blkNow hg (Kd.R_ne HO309.out BK285.out (by decide)))
              have n3_ := Aside0.mk (blk_grown (g := gb298) (o := .cells #[.int .i64 x299000_34, .int .i64 x299001_40] 45 (0, 0)) blkNow hg (Kd.R_away HO309.out (fun _ hk => hk.2)))
              have n4_ := Aside0.mk (IsS98.grown isAll hg (IsS98.own_ne HI0.out HO309.out (by decide)))
              have n5_ := Aside0.mk (blk_grown (g := gb306) (o := .cells #[.bool x286000_2, .bool x286001_2, .slice Ao88 x286002_2.length co88] 43 (0, 0)) blkNow hg (Kd.R_ne HO309.out BK306.out (by decide)))
              have n6_ := Aside0.mk (Kd.R_after (ok := (fun k_ => some k_ ≠ (.slice Ao88 x286002_2.length co88 : Value).ownBlock ∧ k_ ≠ gb298)) (by (with_reducible repeat (first | apply Kd.R_alloc | apply Kd.R_drewN | apply Kd.R_drew)); exact Kd.R_mono HO315.out (fun _ hk => ⟨⟨hk.1.1.2, hk.1.2⟩, hk.2⟩)) hg hat)
              have n7_ := Aside0.mk (below_weaken (by exact belowAll) HL.out hb)
              have n8_ := Aside0.mk (KeepBut.trans (kA_ HK.out) (KeepBut.of_grown hg g) (Kd.R_base2 HO309.out))
              have n9_ := Aside0.mk (ho); clear HO_5 HO_286002 BK285 BK298 HI0 BK306 HO315 HB HK HO309; have HO_5 := n0_; have HO_286002 := n1_; have BK285 := n2_; have BK298 := n3_; have HI0 := n4_; have BK306 := n5_; have HO315 := n6_; have HB := n7_; have HK := n8_; have HO312 := n9_; clear n0_ n1_ n2_ n3_ n4_ n5_ n6_ n7_ n8_ n9_ ho hb hg hat
              refine hK.out _ _ ⟨(blk_cell BK285.out 0).trans rfl, (blk_cell BK285.out 1).trans rfl, (blk_cell BK285.out 2).trans rfl, (blk_cell BK298.out 0).trans rfl, (blk_cell BK298.out 1).trans rfl⟩ (fun hHeld => ?_)
              clear hK K
              refine norm_ (a' := ?_) ?_ ?_
              rotate_left
              ·show Act.put _ (some 52) _ = _
               simp only [Act.put, List.setIfInBounds_toArray, List.set_cons_zero, List.set_cons_succ, i64_w, i32_w]
               rfl
              exact norm_ (by simp only [putAll, Act.put, List.setIfInBounds_toArray, List.set_cons_zero, List.set_cons_succ]) (hCont (v308, v311, v314) _ ⟨hHeld, (by (with_reducible repeat (first | apply Kd.R_alloc | apply Kd.R_drewN | apply Kd.R_drew)); exact Kd.R_mono HO312.out (fun _ hk => ⟨hk.2.1, ⟨hk.1, hk.2.2⟩⟩)), (by (with_reducible repeat (first | apply Kd.R_alloc | apply Kd.R_drewN | apply Kd.R_drew)); exact Kd.R_mono HO315.out (fun _ hk => ⟨hk.2, ⟨hk.1.1, hk.1.2⟩⟩)), (by (with_reducible repeat (first | apply Kd.R_alloc | apply Kd.R_drewN | apply Kd.R_drew)); exact Kd.R_mono HO_286002.out (fun _ hk => ⟨hk.2, ⟨hk.1.1, hk.1.2⟩⟩)), (by (with_reducible repeat (first | apply Kd.S_alloc | apply Kd.S_drewN | apply Kd.S_drew)); exact Kd.S_mono HO_5.out (fun _ hk => ⟨hk.2, ⟨hk.1.2.1, ⟨hk.1.1, ⟨hk.1.2.2.1, ⟨hk.1.2.2.2.1, hk.1.2.2.2.2⟩⟩⟩⟩⟩)), blkNow, blkNow, blkNow, isAll, (kA_ HK.out), belowAll⟩)
            rintro ⟨v308, v311, v314⟩ w96 ⟨hS_, h0_, h1_, h2_, h3_, h4_, h5_, h6_, h7_, h8_, h9_⟩
            have n0_ : Aside0 (Kd.R k45 45 w96 w.heap.size (fun k_ => some k_ ≠ (v314 : Value).ownBlock ∧ some k_ ≠ (.slice Ao88 x286002_2.length co88 : Value).ownBlock ∧ k_ ≠ gb298) v311 y310) := ⟨h0_⟩
            have n1_ : Aside0 (Kd.R k45 45 w96 w.heap.size (fun k_ => some k_ ≠ (v311 : Value).ownBlock ∧ some k_ ≠ (.slice Ao88 x286002_2.length co88 : Value).ownBlock ∧ k_ ≠ gb298) v314 y313) := ⟨h1_⟩
            have n2_ : Aside0 (Kd.R k45 45 w96 w.heap.size (fun k_ => some k_ ≠ (v311 : Value).ownBlock ∧ some k_ ≠ (v314 : Value).ownBlock ∧ k_ ≠ gb298) (.slice Ao88 x286002_2.length co88) x286002_2) := ⟨h2_⟩
            have n3_ : Aside0 (Kd.S k43 43 w96 w.heap.size (fun k_ => some k_ ≠ (v311 : Value).ownBlock ∧ some k_ ≠ (v314 : Value).ownBlock ∧ some k_ ≠ (.slice Ao88 x286002_2.length co88 : Value).ownBlock ∧ k_ ≠ gb285 ∧ k_ ≠ gb298 ∧ k_ ≠ gb306) u5 x5_1) := ⟨h3_⟩
            have n4_ : Aside0 (w96.heap[gb285]? = some (.cells #[.bool x286000_2, .bool x286001_2, .slice Ao88 x286002_2.length co88] 43 (0, 0))) := ⟨h4_⟩; have n5_ : Aside0 (w96.heap[gb298]? = some (.cells #[.int .i64 x299000_34, .int .i64 x299001_40] 45 (0, 0))) := ⟨h5_⟩; have n6_ : Aside0 (w96.heap[gb306]? = some (.cells #[.bool x286000_2, .bool x286001_2, .slice Ao88 x286002_2.length co88] 43 (0, 0))) := ⟨h6_⟩; have n7_ : Aside0 (IsS98 w0 w96 g s0_0 x1001_40 x1002_40) := ⟨h7_⟩; have n8_ : Aside0 (KeepBut w w96 g none) := ⟨h8_⟩; have n9_ : Aside0 (Below w0.heap.size w0 w96) := ⟨h9_⟩; clear HO_5 HO_286002 BK285 BK298 BK306 HI0 HK HB h0_ h1_ h2_ h3_ h4_ h5_ h6_ h7_ h8_ h9_; have HO312 := n0_; have HO315 := n1_; have HO_286002 := n2_; have HO_5 := n3_; have BK285 := n4_; have BK298 := n5_; have BK306 := n6_; have HI0 := n7_; have HK := n8_; have HB := n9_; clear n0_ n1_ n2_ n3_ n4_ n5_ n6_ n7_ n8_ n9_; have hHeld : w96.cell? ⟨gb285, 0, none⟩ = some (.bool x286000_2) ∧ w96.cell? ⟨gb285, 1, none⟩ = some (.bool x286001_2) ∧ w96.cell? ⟨gb285, 2, none⟩ = some (.slice Ao88 x286002_2.length co88) ∧ w96.cell? ⟨gb298, 0, none⟩ = some (.int .i64 x299000_34) ∧ w96.cell? ⟨gb298, 1, none⟩ = some (.int .i64 x299001_40) := hS_; obtain ⟨Ao98, co98, eo98⟩ := Kd.R_slice HO315.out
            (first | subst eo98 | (injection eo98 with f1_ f2_ f3_; have f4_ := f1_.symm; have f5_ := f3_.symm; clear f1_ f2_ f3_; subst f4_; subst f5_))
            refine norm_ (a' := ?_) ?_ ?_
            rotate_left
            ·simp only [putAll, Act.put, List.setIfInBounds_toArray, List.set_cons_zero, List.set_cons_succ]
             rfl
            refine one_ (i := 6) (N := some 55) #[true, true, true, true, true, true, true, false, false] rfl rfl (one_of HT_.out (by kernel_rfl)) (by decide) (fun K hK => ?_)
            refine Kd.R_append_rows_step k45 w.heap.size (by rfl) (.tmp 52) (.tmp 54) 41 45 (.agg #[(.int .i64 0), (.int .i64 0)]) 16 rfl Try.underlying41 info45 rfl (by decide) (by omega) v311 y310 y313 _ _ _ (fun k_ => some k_ ≠ (.slice Ao88 x286002_2.length co88 : Value).ownBlock ∧ some k_ ≠ (.slice Ao98 y313.length co98 : Value).ownBlock ∧ k_ ≠ gb298) (fun _ => False) rfl rfl ?aO ?aR (fun _ _ h => h) (fun _ h => h.elim) ?aF (Below.refl _ _) ?aS ?aL ?_
            (case aR => repeat (first | exact (Kd.R_reads' HO315.out).2.2 | (with_reducible refine Kd.C_alloc ?_ _) | (with_reducible refine Kd.C_drewN ?_ _) | (with_reducible refine Kd.C_drew ?_)))
            (case aF => exact (fun k_ hk => ⟨Kd.fresh' (Kd.R_lt (pR_ HO_286002.out)) k_ hk, Kd.fresh' (Kd.R_lt (pR_ HO315.out)) k_ hk, Kd.freshB (g := gb298) (o := .cells #[.int .i64 x299000_34, .int .i64 x299001_40] 45 (0, 0)) blkNow k_ hk⟩))
            (case aO => exact (by (with_reducible repeat (first | apply Kd.R_alloc | apply Kd.R_drewN | apply Kd.R_drew)); exact Kd.R_mono HO312.out (fun _ hk => ⟨hk.2.1, ⟨hk.1, hk.2.2⟩⟩)))
            (case aS => exact (keep_size (w := w) (g := g) (row := none) (kA_ HK.out)))
            (case aL => have := LMc52.out; omega)
            intro v317 w97 ho hb hg hat
            rw [← Ny316.out] at ho
            have n0_ := Aside0.mk (Kd.S_after (ok := (fun k_ => some k_ ≠ (.slice Ao88 x286002_2.length co88 : Value).ownBlock ∧ some k_ ≠ (.slice Ao98 y313.length co98 : Value).ownBlock ∧ k_ ≠ gb285 ∧ k_ ≠ gb298 ∧ k_ ≠ gb306)) (by (with_reducible repeat (first | apply Kd.S_alloc | apply Kd.S_drewN | apply Kd.S_drew)); exact Kd.S_mono HO_5.out (fun _ hk => ⟨⟨hk.2.2.1, ⟨hk.2.1, ⟨hk.2.2.2.1, ⟨hk.2.2.2.2.1, hk.2.2.2.2.2⟩⟩⟩⟩, hk.1⟩)) hg hat)
            have n1_ := Aside0.mk (Kd.R_after (ok := (fun k_ => some k_ ≠ (.slice Ao98 y313.length co98 : Value).ownBlock ∧ k_ ≠ gb298)) (by (with_reducible repeat (first | apply Kd.R_alloc | apply Kd.R_drewN | apply Kd.R_drew)); exact Kd.R_mono HO_286002.out (fun _ hk => ⟨⟨hk.2.1, hk.2.2⟩, hk.1⟩)) hg hat)
            have n2_ := Aside0.mk (blk_grown (g := gb285) (o := .cells #[.bool x286000_2, .bool x286001_2, .slice Ao88 x286002_2.length co88] 43 (0, 0)) blkNow hg (Kd.R_ne HO312.out BK285.out (by decide)))
            have n3_ := Aside0.mk (blk_grown (g := gb298) (o := .cells #[.int .i64 x299000_34, .int .i64 x299001_40] 45 (0, 0)) blkNow hg (Kd.R_away HO312.out (fun _ hk => hk.2.2)))
            have n4_ := Aside0.mk (IsS98.grown isAll hg (IsS98.own_ne HI0.out HO312.out (by decide)))
            have n5_ := Aside0.mk (blk_grown (g := gb306) (o := .cells #[.bool x286000_2, .bool x286001_2, .slice Ao88 x286002_2.length co88] 43 (0, 0)) blkNow hg (Kd.R_ne HO312.out BK306.out (by decide)))
            have n6_ := Aside0.mk (Kd.R_after (ok := (fun k_ => some k_ ≠ (.slice Ao88 x286002_2.length co88 : Value).ownBlock ∧ k_ ≠ gb298)) (by (with_reducible repeat (first | apply Kd.R_alloc | apply Kd.R_drewN | apply Kd.R_drew)); exact Kd.R_mono HO315.out (fun _ hk => ⟨⟨hk.2.1, hk.2.2⟩, hk.1⟩)) hg hat)
            have n7_ := Aside0.mk (below_weaken (by exact belowAll) HL.out hb)
            have n8_ := Aside0.mk (KeepBut.trans (kA_ HK.out) (KeepBut.of_grown hg g) (Kd.R_base2 HO312.out))
            have n9_ := Aside0.mk (ho); clear HO_5 HO_286002 BK285 BK298 HI0 BK306 HO315 HB HK HO312; have HO_5 := n0_; have HO_286002 := n1_; have BK285 := n2_; have BK298 := n3_; have HI0 := n4_; have BK306 := n5_; have HO315 := n6_; have HB := n7_; have HK := n8_; have HO318 := n9_; clear n0_ n1_ n2_ n3_ n4_ n5_ n6_ n7_ n8_ n9_ ho hb hg hat; obtain ⟨Ao99, co99, eo99⟩ := Kd.R_slice HO318.out
            (first | subst eo99 | (injection eo99 with f1_ f2_ f3_; have f4_ := f1_.symm; have f5_ := f3_.symm; clear f1_ f2_ f3_; subst f4_; subst f5_))
            refine hK.out _ _ ⟨(blk_cell BK285.out 0).trans rfl, (blk_cell BK285.out 1).trans rfl, (blk_cell BK285.out 2).trans rfl, (blk_cell BK298.out 0).trans rfl, (blk_cell BK298.out 1).trans rfl⟩ (fun hHeld => ?_)
            clear hK K
            refine norm_ (a' := ?_) ?_ ?_
            rotate_left
            ·show Act.put _ (some 55) _ = _
             simp only [Act.put, List.setIfInBounds_toArray, List.set_cons_zero, List.set_cons_succ, i64_w, i32_w]
             rfl
            refine pure_ (i := 7) (N := some 56) (v := ?_) (a' := ?_) #[true, true, true, true, true, true, true, true, false] rfl rfl (any_of HT_.out (by kernel_rfl)) (fun _ _ _ h => h) (Or.inl ⟨by rfl, ?_⟩) ?_ ?_
            rotate_left
            ·intro w'
             go_simp
             with_reducible rfl
            rotate_left
            ·simp only [Act.put, List.setIfInBounds_toArray, List.set_cons_zero, List.set_cons_succ, i64_w, i32_w]
             rfl
            refine one_ (i := 8) (N := none) #[true, true, true, true, true, true, true, true, true] rfl rfl (one_of HT_.out (by kernel_rfl)) (by decide) (fun K hK => ?_)
            have hs100 : w97.cell? ⟨gb306, 2, none⟩ = some (.slice Ao88 x286002_2.length co88) := (blk_cell BK306.out 2).trans rfl; have hfs100 := blk_frozen BK306.out 2; have hns100_0 := NB285_306.out; have hns100_1 := NB298_306.out; have hms100_0 := NB306_285.out; have hms100_1 := NB306_298.out
            refine skip_ (w1 := ?_) (by rfl) rfl ?_ ?_
            rotate_left
            ·go_simp
             rfl
            refine hK.out _ _ ⟨((cell_far (p := ⟨gb306, _, none⟩) NB285_306.out _).trans (hHeld.1)), ((cell_far (p := ⟨gb306, _, none⟩) NB285_306.out _).trans (hHeld.2.1)), ((cell_far (p := ⟨gb306, _, none⟩) NB285_306.out _).trans (hHeld.2.2.1)), ((cell_far (p := ⟨gb306, _, none⟩) NB298_306.out _).trans (hHeld.2.2.2.1)), ((cell_far (p := ⟨gb306, _, none⟩) NB298_306.out _).trans (hHeld.2.2.2.2))⟩ (fun hHeld => ?_)
            clear hK K
            refine done_ (done_of HT_.out (by kernel_rfl)) ?_
            have hcz101_0 := cz9_ BK306.out 0 rfl; have hcz101_1 := cz9_ BK306.out 1 rfl; have hcz101_2 := cz9_ BK306.out 2 rfl; have hfz101_0 := blk_frozen BK306.out 0; have hfz101_1 := blk_frozen BK306.out 1; have hfz101_2 := blk_frozen BK306.out 2
            try go_wp2_with (first | ((with_reducible refine gate_callee (f := 50) rfl ?_); refine goesL_ (some 59) rfl rfl Try.func50 (by kernel_rfl) rfl #[.agg #[.bool x286000_2, .bool x286001_2, .slice Ao99 y316.length co99], .int .i64 a1] rfl (by (try simp only [List.map_toArray, List.map_cons, List.map_nil]); first | done | rfl | (simp only [List.length_drop, List.length_take]; rfl)) ?_; (with_reducible refine (spec_l7Sub.calls kj40 x286000_2 x286001_2 _ _ y316 a1 false _ ?side1 ?side2 A53.out).mono ?_); (case side1 => refine (Kd.R_reads' (e := 45) (base := w.heap.size) (ok := fun k_ => (some k_ ≠ (.slice Ao88 x286002_2.length co88 : Value).ownBlock ∧ (some k_ ≠ (.slice Ao98 y313.length co98 : Value).ownBlock ∧ k_ ≠ gb298))) (n := y316.length) (c := co99) ?_).2.2; exact (by (with_reducible repeat (first | apply Kd.R_alloc | apply Kd.R_drewN | apply Kd.R_drew)); exact (Kd.R_mono (Kd.R_far (p := ⟨gb306, 2, none⟩) (Kd.R_types HO318.out BK306.out (by decide)) (fun _ hk => hk.2) (.slice Ao99 y316.length co99)) (fun _ h_ => h_.1)))); (case side2 => exact (Kd.R_reads' HO318.out).2.1); rintro e w102 ⟨rfl, hb⟩; refine ⟨_, rfl, ?_⟩; have n0_ := Aside0.mk (Kd.S_below (by (with_reducible repeat (first | apply Kd.S_alloc | apply Kd.S_drewN | apply Kd.S_drew)); exact (Kd.S_mono (Kd.S_far (p := ⟨gb306, 2, none⟩) (Kd.S_mono HO_5.out (fun k_ hk => (⟨hk, hk.1.2.2.2.2⟩ : _ ∧ k_ ≠ gb306))) (fun _ hk => hk.2) (.slice Ao99 y316.length co99)) (fun _ h_ => h_.1))) hb); have n1_ := Aside0.mk (Kd.R_below (by (with_reducible repeat (first | apply Kd.R_alloc | apply Kd.R_drewN | apply Kd.R_drew)); exact (Kd.R_mono (Kd.R_far (p := ⟨gb306, 2, none⟩) (Kd.R_types HO_286002.out BK306.out (by decide)) (fun _ hk => hk.2) (.slice Ao99 y316.length co99)) (fun _ h_ => h_.1))) hb); have n2_ := Aside0.mk (Kd.R_below (by (with_reducible repeat (first | apply Kd.R_alloc | apply Kd.R_drewN | apply Kd.R_drew)); exact (Kd.R_mono (Kd.R_far (p := ⟨gb306, 2, none⟩) (Kd.R_types HO315.out BK306.out (by decide)) (fun _ hk => hk.2) (.slice Ao99 y316.length co99)) (fun _ h_ => h_.1))) hb); have n3_ := Aside0.mk (Kd.R_below (by (with_reducible repeat (first | apply Kd.R_alloc | apply Kd.R_drewN | apply Kd.R_drew)); exact (Kd.R_mono (Kd.R_far (p := ⟨gb306, 2, none⟩) (Kd.R_types HO318.out BK306.out (by decide)) (fun _ hk => hk.2) (.slice Ao99 y316.length co99)) (fun _ h_ => h_.1))) hb); have n4_ := Aside0.mk (blk_below (g := gb285) (o := .cells #[.bool x286000_2, .bool x286001_2, .slice Ao88 x286002_2.length co88] 43 (0, 0)) (blkFars) hb); have n5_ := Aside0.mk (blk_below (g := gb298) (o := .cells #[.int .i64 x299000_34, .int .i64 x299001_40] 45 (0, 0)) (blkFars) hb); have n6_ := Aside0.mk (IsS98.below (show IsS98 w0 (w97.setCell ⟨gb306, 2, none⟩ (.slice Ao99 y316.length co99)) g s0_0 x1001_40 x1002_40 from by exact isAll) hb); have n7_ := Aside0.mk (blk_below (g := gb306) (o := .cells #[.bool x286000_2, .bool x286001_2, .slice Ao99 y316.length co99] 43 (0, 0)) (by (with_reducible repeat (first | refine blk_drewN ?_ _ | refine blk_drew ?_ | refine blk_alloc ?_ _)); refine blk_put (cs := #[.bool x286000_2, .bool x286001_2, .slice Ao88 x286002_2.length co88]) ?_ 2 _ rfl; (with_reducible repeat (first | refine blk_drewN ?_ _ | refine blk_drew ?_ | refine blk_alloc ?_ _)); exact BK306.out) hb); have n8_ := Aside0.mk (KeepBut.trans (kA_ HK.out) (KeepBut.of_below hb g none) (.inl rfl)); have n9_ := Aside0.mk (below_step belowAll hb); clear HO_5; clear HO_286002; clear HO315; clear HO318; clear BK285; clear BK298; clear HI0; clear BK306; clear HK; clear HB; have HO_5 := n0_; have HO_286002 := n1_; have HO315 := n2_; have HO318 := n3_; have BK285 := n4_; have BK298 := n5_; have HI0 := n6_; have BK306 := n7_; have HK := n8_; have HB := n9_; clear n0_ n1_ n2_ n3_ n4_ n5_ n6_ n7_ n8_ n9_; (try clear hb); (try clear hb2); (try clear hk); (try clear hi)))
            go_roundg kj40
            case measure => have := HK1.out; have := HK2.out; have := HJ16.out; have := HJ34.out; have := HJ40.out; omega
            case rel => exact ⟨(wrap64 (x8_2 - 1)), (x1001_40), (x1002_40), (x286000_2), (x286001_2), (x286002_2), (.slice Ao88 x286002_2.length co88), (by first | rfl | (simp; done) | (simp [*]; done)), H', ⟨by have := HK1.out; have := HK2.out; have := HJ16.out; have := HJ34.out; have := HJ40.out; omega⟩, ⟨by (with_reducible repeat (first | apply Kd.S_alloc | apply Kd.S_drewN | apply Kd.S_drew)); exact Kd.S_mono HO_5.out (fun _ hk => ⟨hk.1.1, hk.1.2.2.1⟩)⟩, ⟨by (with_reducible repeat (first | apply Kd.R_alloc | apply Kd.R_drewN | apply Kd.R_drew)); exact Kd.R_mono HO_286002.out (fun _ hk => trivial)⟩, ⟨by (with_reducible repeat (first | refine blk_drewN ?_ _ | refine blk_drew ?_ | refine blk_alloc ?_ _)); exact BK285.out⟩, ⟨by exact isAll⟩, ⟨by exact (kA_ HK.out)⟩, ⟨by exact belowAll⟩⟩
           subst c54
           have H1 : (spec_l7Draw.l1 kj40 a1 x5_1 x6_1 (wrap64 (x8_2 - 1)) s0_0 x1001_40 x1002_40 x286000_2 x286001_2 y316) = some (r1, r2, r3) := by rw [if_pos rfl] at H; exact H
           clear H; have H := H1; clear H1
           have H' := Aside0.mk H
           clear H; have ⟨hnb55, hnc55⟩ := nn9_ NB285_298.out; have ⟨hnb56, hnc56⟩ := nn9_ NB285_0.out; have hcz57_0 := cz9_ BK285.out 0 rfl; have hcz57_1 := cz9_ BK285.out 1 rfl; have hcz57_2 := cz9_ BK285.out 2 rfl; have hfz57_0 := blk_frozen BK285.out 0; have hfz57_1 := blk_frozen BK285.out 1; have hfz57_2 := blk_frozen BK285.out 2
           try go_wp2_with (first | ((with_reducible refine gate_dst (N := 10) rfl ?_); refine box_event ?hg (N := 10) ?hd (cs := #[.bool false, .bool false, .slice none 0 0]) (t := 43) ?hr ?_; (case hd => rfl); (case hg => rfl); (case hr => first | (go_simp; done) | (go_simp; rfl)); intro gb306 hg w58 hbox hb; have n0_ := Aside0.mk (Kd.S_below (Kd.S_elderB (pS_ HO_5.out) gb306 (Nat.le_of_eq hg.symm)) hb); have n1_ := Aside0.mk (Kd.R_below (pR_ HO_286002.out) hb); have n2_ := Aside0.mk (blkStep (g := gb285) hb); have n3_ := Aside0.mk (blkStep (g := gb298) hb); have n4_ := Aside0.mk (IsS98.below isAll hb); have n5_ := Aside0.mk (KeepBut.trans (kA_ HK.out) (KeepBut.of_below hb g none) (.inl rfl)); have n6_ := Aside0.mk (below_step belowAll hb); have n7_ := Aside0.mk (hbox); have n8_ := Aside0.mk ((by rw [hg]; exact (keep_size (w := w) (g := g) (row := none) (kA_ HK.out)) : w.heap.size ≤ gb306)); have n9_ := Aside0.mk ((Nat.le_trans HW0.out (by rw [hg]; exact (keep_size (w := w) (g := g) (row := none) (kA_ HK.out)) : w.heap.size ≤ gb306) : w0.heap.size ≤ gb306)); have n10_ := Aside0.mk ((by rw [hg]; exact Nat.ne_of_lt (blkLt (g := gb285)) : gb285 ≠ gb306)); have n11_ := Aside0.mk ((by rw [hg]; exact Nat.ne_of_gt (blkLt (g := gb285)) : gb306 ≠ gb285)); have n12_ := Aside0.mk ((by rw [hg]; exact Nat.ne_of_lt (blkLt (g := gb298)) : gb298 ≠ gb306)); have n13_ := Aside0.mk ((by rw [hg]; exact Nat.ne_of_gt (blkLt (g := gb298)) : gb306 ≠ gb298)); have n14_ := Aside0.mk ((by rw [hg]; exact Nat.ne_of_lt (IsS98.lt (show IsS98 w0 _ g s0_0 x1001_40 x1002_40 from by exact isAll)) : g ≠ gb306)); have n15_ := Aside0.mk ((by rw [hg]; exact Nat.ne_of_gt (IsS98.lt (show IsS98 w0 _ g s0_0 x1001_40 x1002_40 from by exact isAll)) : gb306 ≠ g)); clear HO_5; clear HO_286002; clear BK285; clear BK298; clear HI0; clear HK; clear HB; have HO_5 := n0_; have HO_286002 := n1_; have BK285 := n2_; have BK298 := n3_; have HI0 := n4_; have HK := n5_; have HB := n6_; have BK306 := n7_; have GW306 := n8_; have GE306 := n9_; have NB285_306 := n10_; have NB306_285 := n11_; have NB298_306 := n12_; have NB306_298 := n13_; have NB0_306 := n14_; have NB306_0 := n15_; clear n0_ n1_ n2_ n3_ n4_ n5_ n6_ n7_ n8_ n9_ n10_ n11_ n12_ n13_ n14_ n15_; clear hb hbox hg; have ⟨hnb59, hnc59⟩ := nn9_ NB306_285.out; have ⟨hnb60, hnc60⟩ := nn9_ NB306_298.out; have ⟨hnb61, hnc61⟩ := nn9_ NB306_0.out; have hcz62_0 := cz9_ BK306.out 0 rfl; have hcz62_1 := cz9_ BK306.out 1 rfl; have hcz62_2 := cz9_ BK306.out 2 rfl; have hfz62_0 := blk_frozen BK306.out 0; have hfz62_1 := blk_frozen BK306.out 1; have hfz62_2 := blk_frozen BK306.out 2; obtain ⟨Ao63, co63, eo63⟩ := Kd.R_slice HO_286002.out; subst eo63))
           have n0_ : Aside0 (Kd.S k43 43 (((w58.setCell ⟨gb306, 0, none⟩ (.bool x286000_2)).setCell ⟨gb306, 1, none⟩ (.bool x286001_2)).setCell ⟨gb306, 2, none⟩ (.slice Ao63 x286002_2.length co63)) w.heap.size (fun k_ => some k_ ≠ (.slice Ao63 x286002_2.length co63 : Value).ownBlock ∧ k_ ≠ gb285 ∧ k_ ≠ gb298 ∧ k_ ≠ gb306) u5 x5_1) := ⟨by (with_reducible repeat (first | apply Kd.S_alloc | apply Kd.S_drewN | apply Kd.S_drew)); exact Kd.S_mono (Kd.S_far (p := ⟨gb306, 2, none⟩) (Kd.S_far (p := ⟨gb306, 1, none⟩) (Kd.S_far (p := ⟨gb306, 0, none⟩) (Kd.S_mono HO_5.out (fun k_ hk => (⟨hk, hk.2⟩ : _ ∧ k_ ≠ gb306))) (fun _ hk => hk.2) (.bool x286000_2)) (fun _ hk => hk.2) (.bool x286001_2)) (fun _ hk => hk.2) (.slice Ao63 x286002_2.length co63)) (fun _ hk => ⟨hk.1.1.1, ⟨hk.1.1.2.1, ⟨hk.1.1.2.2, hk.1.2⟩⟩⟩)⟩
           have n1_ : Aside0 (Kd.R k45 45 (((w58.setCell ⟨gb306, 0, none⟩ (.bool x286000_2)).setCell ⟨gb306, 1, none⟩ (.bool x286001_2)).setCell ⟨gb306, 2, none⟩ (.slice Ao63 x286002_2.length co63)) w.heap.size (fun k_ => k_ ≠ gb298) (.slice Ao63 x286002_2.length co63) x286002_2) := ⟨by (with_reducible repeat (first | apply Kd.R_alloc | apply Kd.R_drewN | apply Kd.R_drew)); exact Kd.R_mono (Kd.R_far (p := ⟨gb306, 2, none⟩) (Kd.R_far (p := ⟨gb306, 1, none⟩) (Kd.R_far (p := ⟨gb306, 0, none⟩) (Kd.R_types HO_286002.out BK306.out (by decide)) (fun _ hk => hk.2) (.bool x286000_2)) (fun _ hk => hk.2) (.bool x286001_2)) (fun _ hk => hk.2) (.slice Ao63 x286002_2.length co63)) (fun _ hk => hk.1)⟩
           have n2_ : Aside0 ((((w58.setCell ⟨gb306, 0, none⟩ (.bool x286000_2)).setCell ⟨gb306, 1, none⟩ (.bool x286001_2)).setCell ⟨gb306, 2, none⟩ (.slice Ao63 x286002_2.length co63)).heap[gb285]? = some (.cells #[.bool x286000_2, .bool x286001_2, .slice Ao63 x286002_2.length co63] 43 (0, 0))) := ⟨blkFars⟩; have n3_ : Aside0 ((((w58.setCell ⟨gb306, 0, none⟩ (.bool x286000_2)).setCell ⟨gb306, 1, none⟩ (.bool x286001_2)).setCell ⟨gb306, 2, none⟩ (.slice Ao63 x286002_2.length co63)).heap[gb298]? = some (.cells #[.int .i64 x299000_34, .int .i64 x299001_40] 45 (0, 0))) := ⟨blkFars⟩
           have n4_ : Aside0 ((((w58.setCell ⟨gb306, 0, none⟩ (.bool x286000_2)).setCell ⟨gb306, 1, none⟩ (.bool x286001_2)).setCell ⟨gb306, 2, none⟩ (.slice Ao63 x286002_2.length co63)).heap[gb306]? = some (.cells #[.bool x286000_2, .bool x286001_2, .slice Ao63 x286002_2.length co63] 43 (0, 0))) := ⟨by (with_reducible repeat (first | refine blk_drewN ?_ _ | refine blk_drew ?_ | refine blk_alloc ?_ _)); refine blk_put (cs := #[.bool x286000_2, .bool x286001_2, .slice none 0 0]) ?_ 2 _ rfl; (with_reducible repeat (first | refine blk_drewN ?_ _ | refine blk_drew ?_ | refine blk_alloc ?_ _)); refine blk_put (cs := #[.bool x286000_2, .bool false, .slice none 0 0]) ?_ 1 _ rfl; (with_reducible repeat (first | refine blk_drewN ?_ _ | refine blk_drew ?_ | refine blk_alloc ?_ _)); refine blk_put (cs := #[.bool false, .bool false, .slice none 0 0]) ?_ 0 _ rfl; (with_reducible repeat (first | refine blk_drewN ?_ _ | refine blk_drew ?_ | refine blk_alloc ?_ _)); exact BK306.out⟩
           have n5_ : Aside0 (IsS98 w0 (((w58.setCell ⟨gb306, 0, none⟩ (.bool x286000_2)).setCell ⟨gb306, 1, none⟩ (.bool x286001_2)).setCell ⟨gb306, 2, none⟩ (.slice Ao63 x286002_2.length co63)) g s0_0 x1001_40 x1002_40) := ⟨by exact isAll⟩
           have n6_ : Aside0 (KeepBut w (((w58.setCell ⟨gb306, 0, none⟩ (.bool x286000_2)).setCell ⟨gb306, 1, none⟩ (.bool x286001_2)).setCell ⟨gb306, 2, none⟩ (.slice Ao63 x286002_2.length co63)) g none) := ⟨by exact (kA_ HK.out)⟩
           have n7_ : Aside0 (Below w0.heap.size w0 (((w58.setCell ⟨gb306, 0, none⟩ (.bool x286000_2)).setCell ⟨gb306, 1, none⟩ (.bool x286001_2)).setCell ⟨gb306, 2, none⟩ (.slice Ao63 x286002_2.length co63))) := ⟨by exact belowAll⟩
           (try clear HO_5); (try clear HO_286002); (try clear BK285); (try clear BK298); (try clear BK306); (try clear HI0); (try clear HK); (try clear HB)
           generalize (((w58.setCell ⟨gb306, 0, none⟩ (.bool x286000_2)).setCell ⟨gb306, 1, none⟩ (.bool x286001_2)).setCell ⟨gb306, 2, none⟩ (.slice Ao63 x286002_2.length co63)) = w64 at n0_ n1_ n2_ n3_ n4_ n5_ n6_ n7_ ⊢
           have HO_5 := n0_; have HO_286002 := n1_; have BK285 := n2_; have BK298 := n3_; have BK306 := n4_; have HI0 := n5_; have HK := n6_; have HB := n7_; clear n0_ n1_ n2_ n3_ n4_ n5_ n6_ n7_; have n0_ := Aside0.mk (Kd.S_drew HO_5.out); have n1_ := Aside0.mk (Kd.R_drew HO_286002.out); have n2_ := Aside0.mk (blk_drew BK285.out); have n3_ := Aside0.mk (blk_drew BK298.out); have n4_ := Aside0.mk (blk_drew BK306.out); have n5_ := Aside0.mk (IsS98.drew HI0.out); have n6_ := Aside0.mk (keep_drew HK.out); have n7_ := Aside0.mk (below_drew1 HB.out); clear HO_5 HO_286002 BK285 BK298 BK306 HI0 HK HB; have HO_5 := n0_; have HO_286002 := n1_; have BK285 := n2_; have BK298 := n3_; have BK306 := n4_; have HI0 := n5_; have HK := n6_; have HB := n7_; clear n0_ n1_ n2_ n3_ n4_ n5_ n6_ n7_
           refine start_ (n := 9) (S := fun w' => w'.cell? ⟨gb285, 0, none⟩ = some (.bool x286000_2) ∧ w'.cell? ⟨gb285, 1, none⟩ = some (.bool x286001_2) ∧ w'.cell? ⟨gb285, 2, none⟩ = some (.slice Ao63 x286002_2.length co63) ∧ w'.cell? ⟨gb298, 0, none⟩ = some (.int .i64 x299000_34) ∧ w'.cell? ⟨gb298, 1, none⟩ = some (.int .i64 x299001_40)) (ds := []) #[false, false, false, false, false, false, false, false, false] (by kernel_rfl) rfl rfl ⟨(blk_cell BK285.out 0).trans rfl, (blk_cell BK285.out 1).trans rfl, (blk_cell BK285.out 2).trans rfl, (blk_cell BK298.out 0).trans rfl, (blk_cell BK298.out 1).trans rfl⟩ (fun hHeld => ?_); refine with_tabW spec_l7Draw.tab15 spec_l7Draw.bits15 (fun HT_ HW_ => ?_)
           generalize w64.drew = w65 at HO_5 HO_286002 BK285 BK298 BK306 HI0 HK HB hHeld ⊢
           refine pure_ (i := 1) (N := some 50) (v := ?_) (a' := ?_) #[false, true, false, false, false, false, false, false, false] rfl rfl (any_of HT_.out (by kernel_rfl)) (fun _ _ _ h => h) (Or.inl ⟨by rfl, ?_⟩) ?_ ?_
           rotate_left
           ·intro w'
            go_simp
            with_reducible rfl
           rotate_left
           ·simp only [Act.put, List.setIfInBounds_toArray, List.set_cons_zero, List.set_cons_succ, i64_w, i32_w]
            rfl
           refine take_ (i := 2) (N := some 51) (v := ?_) (a' := ?_) #[false, true, true, false, false, false, false, false, false] rfl rfl (take_ofW HT_.out HW_.out (by kernel_rfl)) (fun _ _ _ h => h) (Or.inl ⟨by rfl, ?_⟩) hHeld ?_ ?_
           rotate_left
           ·rintro w' ⟨s0, s1, s2, s3, s4⟩
            go_simp
            with_reducible rfl
           rotate_left
           ·simp only [Act.put, List.setIfInBounds_toArray, List.set_cons_zero, List.set_cons_succ, i64_w, i32_w]
            rfl
           refine take_ (i := 4) (N := some 53) (v := ?_) (a' := ?_) #[false, true, true, false, true, false, false, false, false] rfl rfl (take_ofW HT_.out HW_.out (by kernel_rfl)) (fun _ _ _ h => h) (Or.inl ⟨by rfl, ?_⟩) hHeld ?_ ?_
           rotate_left
           ·rintro w' ⟨s0, s1, s2, s3, s4⟩
            go_simp
            with_reducible rfl
           rotate_left
           ·simp only [Act.put, List.setIfInBounds_toArray, List.set_cons_zero, List.set_cons_succ, i64_w, i32_w]
            rfl
           refine join_ (σ := Value × Value × Value) 3 #[true, true, true, true, true, true, false, false, false] (fun s_ => [(49, s_.1), (52, s_.2.1), (54, s_.2.2)]) (fun s_ w' => (w'.cell? ⟨gb285, 0, none⟩ = some (.bool x286000_2) ∧ w'.cell? ⟨gb285, 1, none⟩ = some (.bool x286001_2) ∧ w'.cell? ⟨gb285, 2, none⟩ = some (.slice Ao63 x286002_2.length co63) ∧ w'.cell? ⟨gb298, 0, none⟩ = some (.int .i64 x299000_34) ∧ w'.cell? ⟨gb298, 1, none⟩ = some (.int .i64 x299001_40)) ∧ (Kd.R k45 45 w' w.heap.size (fun k_ => some k_ ≠ (s_.2.2 : Value).ownBlock ∧ some k_ ≠ (.slice Ao63 x286002_2.length co63 : Value).ownBlock ∧ k_ ≠ gb298) s_.2.1 y310) ∧ (Kd.R k45 45 w' w.heap.size (fun k_ => some k_ ≠ (s_.2.1 : Value).ownBlock ∧ some k_ ≠ (.slice Ao63 x286002_2.length co63 : Value).ownBlock ∧ k_ ≠ gb298) s_.2.2 y313) ∧ (Kd.R k45 45 w' w.heap.size (fun k_ => some k_ ≠ (s_.2.1 : Value).ownBlock ∧ some k_ ≠ (s_.2.2 : Value).ownBlock ∧ k_ ≠ gb298) (.slice Ao63 x286002_2.length co63) x286002_2) ∧ (Kd.S k43 43 w' w.heap.size (fun k_ => some k_ ≠ (s_.2.1 : Value).ownBlock ∧ some k_ ≠ (s_.2.2 : Value).ownBlock ∧ some k_ ≠ (.slice Ao63 x286002_2.length co63 : Value).ownBlock ∧ k_ ≠ gb285 ∧ k_ ≠ gb298 ∧ k_ ≠ gb306) u5 x5_1) ∧ (w'.heap[gb285]? = some (.cells #[.bool x286000_2, .bool x286001_2, .slice Ao63 x286002_2.length co63] 43 (0, 0))) ∧ (w'.heap[gb298]? = some (.cells #[.int .i64 x299000_34, .int .i64 x299001_40] 45 (0, 0))) ∧ (w'.heap[gb306]? = some (.cells #[.bool x286000_2, .bool x286001_2, .slice Ao63 x286002_2.length co63] 43 (0, 0))) ∧ (IsS98 w0 w' g s0_0 x1001_40 x1002_40) ∧ (KeepBut w w' g none) ∧ (Below w0.heap.size w0 w')) ?_ ?_
           rotate_left
           ·intro hCont
            refine two_ (i := 0) (j := 5) (Ni := some 49) (Nj := some 54) #[true, true, true, false, true, false, false, false, false] #[false, true, true, false, true, true, false, false, false] rfl rfl rfl rfl (two_of HT_.out (by kernel_rfl)) (by decide) (by decide) (fun K hK => ?_) (fun K hK => ?_)
            ·skip
             refine Kd.R_lit_step k45 _ 45 ?hg (N := 49) ?hd (xs := ([] : List (S45))) (inner := []) (ok := fun _ => True) (okp := fun _ => True) ?hr ?hp (fun _ hk => hk) trivial (Below.refl _ _) (Nat.le_refl _) (by simp) ?_; (case hd => rfl); (case hg => rfl); (case hr => first | (go_simp; done) | (go_simp; rfl)); (case hp => exact (Reps.none _ _))
             intro v308 w66 ho67 hb hg_ hnew_
             clear hg_ hnew_
             (first | rw [← Ny307.out] at ho67 | (simp only [Int.reduceToNat] at ho67; rw [← Ny307.out] at ho67))
             have n0_ := Aside0.mk (Kd.S_elder' (pS_ HO_5.out) (Kd.R_base ho67) hb)
             have n1_ := Aside0.mk (Kd.R_elder' (pR_ HO_286002.out) (Kd.R_base ho67) hb)
             have n2_ := Aside0.mk (Kd.R_lower (Kd.R_newB (Kd.R_new' ho67 (Kd.R_lt (pR_ HO_286002.out))) (g := gb298) (o := .cells #[.int .i64 x299000_34, .int .i64 x299001_40] 45 (0, 0)) blkNow) (keep_size (w := w) (g := g) (row := none) (kA_ HK.out)))
             have n3_ := Aside0.mk (blkStep (g := gb285) hb); have n4_ := Aside0.mk (blkStep (g := gb298) hb)
             have n5_ := Aside0.mk (IsS98.below isAll hb)
             have n6_ := Aside0.mk (blkStep (g := gb306) hb)
             have n7_ := Aside0.mk (KeepBut.trans (kA_ HK.out) (KeepBut.of_below hb g none) (.inl rfl))
             have n8_ := Aside0.mk (below_step belowAll hb)
             clear HO_5 HO_286002 BK285 BK298 HI0 BK306 HK HB; have HO_5 := n0_; have HO_286002 := n1_; have HO309 := n2_; have BK285 := n3_; have BK298 := n4_; have HI0 := n5_; have BK306 := n6_; have HK := n7_; have HB := n8_; clear n0_ n1_ n2_ n3_ n4_ n5_ n6_ n7_ n8_ hb ho67
             refine hK.out _ _ ⟨(blk_cell BK285.out 0).trans rfl, (blk_cell BK285.out 1).trans rfl, (blk_cell BK285.out 2).trans rfl, (blk_cell BK298.out 0).trans rfl, (blk_cell BK298.out 1).trans rfl⟩ (fun hHeld => ?_)
             clear hK K
             refine norm_ (a' := ?_) ?_ ?_
             rotate_left
             ·show Act.put _ (some 49) _ = _
              simp only [Act.put, List.setIfInBounds_toArray, List.set_cons_zero, List.set_cons_succ, i64_w, i32_w]
              rfl
             refine two_ (i := 3) (j := 5) (Ni := some 52) (Nj := some 54) #[true, true, true, true, true, false, false, false, false] #[true, true, true, false, true, true, false, false, false] rfl rfl rfl rfl (two_of HT_.out (by kernel_rfl)) (by decide) (by decide) (fun K hK => ?_) (fun K hK => ?_)
             ·skip
              refine Kd.R_append_rows_step k45 w.heap.size (by rfl) (.tmp 49) (.tmp 51) 41 45 (.agg #[(.int .i64 0), (.int .i64 0)]) 16 rfl Try.underlying41 info45 rfl (by decide) (by omega) v308 y307 x286002_2 _ _ _ (fun k_ => some k_ ≠ (.slice Ao63 x286002_2.length co63 : Value).ownBlock ∧ k_ ≠ gb298) (fun _ => False) rfl rfl ?aO ?aR (fun _ _ h => h) (fun _ h => h.elim) ?aF (Below.refl _ _) ?aS ?aL ?_
              (case aR => repeat (first | exact (Kd.R_reads' HO_286002.out).2.2 | (with_reducible refine Kd.C_alloc ?_ _) | (with_reducible refine Kd.C_drewN ?_ _) | (with_reducible refine Kd.C_drew ?_)))
              (case aF => exact (fun k_ hk => ⟨Kd.fresh' (Kd.R_lt (pR_ HO_286002.out)) k_ hk, Kd.freshB (g := gb298) (o := .cells #[.int .i64 x299000_34, .int .i64 x299001_40] 45 (0, 0)) blkNow k_ hk⟩))
              (case aO => exact (by (with_reducible repeat (first | apply Kd.R_alloc | apply Kd.R_drewN | apply Kd.R_drew)); exact Kd.R_mono HO309.out (fun _ hk => ⟨hk.1.2, hk.2⟩)))
              (case aS => exact (keep_size (w := w) (g := g) (row := none) (kA_ HK.out)))
              (case aL => have := LMc51.out; omega)
              intro v311 w68 ho hb hg hat
              rw [← Ny310.out] at ho
              have n0_ := Aside0.mk (Kd.S_after (ok := (fun k_ => some k_ ≠ (.slice Ao63 x286002_2.length co63 : Value).ownBlock ∧ k_ ≠ gb285 ∧ k_ ≠ gb298 ∧ k_ ≠ gb306)) (pS_ HO_5.out) hg hat)
              have n1_ := Aside0.mk (Kd.R_after (ok := (fun k_ => k_ ≠ gb298)) (pR_ HO_286002.out) hg hat)
              have n2_ := Aside0.mk (blk_grown (g := gb285) (o := .cells #[.bool x286000_2, .bool x286001_2, .slice Ao63 x286002_2.length co63] 43 (0, 0)) blkNow hg (Kd.R_ne HO309.out BK285.out (by decide)))
              have n3_ := Aside0.mk (blk_grown (g := gb298) (o := .cells #[.int .i64 x299000_34, .int .i64 x299001_40] 45 (0, 0)) blkNow hg (Kd.R_away HO309.out (fun _ hk => hk.2)))
              have n4_ := Aside0.mk (IsS98.grown isAll hg (IsS98.own_ne HI0.out HO309.out (by decide)))
              have n5_ := Aside0.mk (blk_grown (g := gb306) (o := .cells #[.bool x286000_2, .bool x286001_2, .slice Ao63 x286002_2.length co63] 43 (0, 0)) blkNow hg (Kd.R_ne HO309.out BK306.out (by decide)))
              have n6_ := Aside0.mk (below_weaken (by exact belowAll) HL.out hb)
              have n7_ := Aside0.mk (KeepBut.trans (kA_ HK.out) (KeepBut.of_grown hg g) (Kd.R_base2 HO309.out))
              have n8_ := Aside0.mk (ho); clear HO_5 HO_286002 BK285 BK298 HI0 BK306 HB HK HO309; have HO_5 := n0_; have HO_286002 := n1_; have BK285 := n2_; have BK298 := n3_; have HI0 := n4_; have BK306 := n5_; have HB := n6_; have HK := n7_; have HO312 := n8_; clear n0_ n1_ n2_ n3_ n4_ n5_ n6_ n7_ n8_ ho hb hg hat
              refine hK.out _ _ ⟨(blk_cell BK285.out 0).trans rfl, (blk_cell BK285.out 1).trans rfl, (blk_cell BK285.out 2).trans rfl, (blk_cell BK298.out 0).trans rfl, (blk_cell BK298.out 1).trans rfl⟩ (fun hHeld => ?_)
              clear hK K
              refine norm_ (a' := ?_) ?_ ?_
              rotate_left
              ·show Act.put _ (some 52) _ = _
               simp only [Act.put, List.setIfInBounds_toArray, List.set_cons_zero, List.set_cons_succ, i64_w, i32_w]
               rfl
              refine one_ (i := 5) (N := some 54) #[true, true, true, true, true, true, false, false, false] rfl rfl (one_of HT_.out (by kernel_rfl)) (by decide) (fun K hK => ?_)
              refine Kd.R_lit_step k45 _ 45 ?hg (N := 54) ?hd (xs := ([(⟨x299000_34, x299001_40⟩ : S45)] : List (S45))) (inner := [.int .i64 x299000_34, .int .i64 x299001_40]) (ok := fun _ => True) (okp := fun _ => True) ?hr ?hp (fun _ hk => hk) trivial (Below.refl _ _) (Nat.le_refl _) (by simp) ?_; (case hd => rfl); (case hg => rfl); (case hr => first | (go_simp; done) | (go_simp; rfl)); (case hp => exact (Reps.c2 (show Kd.M k45 _ _ _ (⟨x299000_34, x299001_40⟩ : S45) [.int .i64 x299000_34, .int .i64 x299001_40] from (k45_mkM _ _ _ (⟨x299000_34, x299001_40⟩ : S45) )) (Reps.none _ _)))
              intro v314 w69 ho70 hb hg_ hnew_
              clear hg_ hnew_
              (first | rw [← Ny313.out] at ho70 | (simp only [Int.reduceToNat] at ho70; rw [← Ny313.out] at ho70))
              have n0_ := Aside0.mk (Kd.S_elder' (pS_ HO_5.out) (Kd.R_base ho70) hb)
              have n1_ := Aside0.mk (Kd.R_elder' (pR_ HO_286002.out) (Kd.R_base ho70) hb)
              have n2_ := Aside0.mk (Kd.R_elder' (pR_ HO312.out) (Kd.R_base ho70) hb)
              have n3_ := Aside0.mk (Kd.R_lower (Kd.R_newB (Kd.R_new' (Kd.R_new' ho70 (Kd.R_lt (pR_ HO_286002.out))) (Kd.R_lt (pR_ HO312.out))) (g := gb298) (o := .cells #[.int .i64 x299000_34, .int .i64 x299001_40] 45 (0, 0)) blkNow) (keep_size (w := w) (g := g) (row := none) (kA_ HK.out)))
              have n4_ := Aside0.mk (blkStep (g := gb285) hb); have n5_ := Aside0.mk (blkStep (g := gb298) hb)
              have n6_ := Aside0.mk (IsS98.below isAll hb)
              have n7_ := Aside0.mk (blkStep (g := gb306) hb)
              have n8_ := Aside0.mk (KeepBut.trans (kA_ HK.out) (KeepBut.of_below hb g none) (.inl rfl))
              have n9_ := Aside0.mk (below_step belowAll hb)
              clear HO_5 HO_286002 HO312 BK285 BK298 HI0 BK306 HK HB; have HO_5 := n0_; have HO_286002 := n1_; have HO312 := n2_; have HO315 := n3_; have BK285 := n4_; have BK298 := n5_; have HI0 := n6_; have BK306 := n7_; have HK := n8_; have HB := n9_; clear n0_ n1_ n2_ n3_ n4_ n5_ n6_ n7_ n8_ n9_ hb ho70
              refine hK.out _ _ ⟨(blk_cell BK285.out 0).trans rfl, (blk_cell BK285.out 1).trans rfl, (blk_cell BK285.out 2).trans rfl, (blk_cell BK298.out 0).trans rfl, (blk_cell BK298.out 1).trans rfl⟩ (fun hHeld => ?_)
              clear hK K
              refine norm_ (a' := ?_) ?_ ?_
              rotate_left
              ·show Act.put _ (some 54) _ = _
               simp only [Act.put, List.setIfInBounds_toArray, List.set_cons_zero, List.set_cons_succ, i64_w, i32_w]
               rfl
              exact norm_ (by simp only [putAll, Act.put, List.setIfInBounds_toArray, List.set_cons_zero, List.set_cons_succ]) (hCont (v308, v311, v314) _ ⟨hHeld, (by (with_reducible repeat (first | apply Kd.R_alloc | apply Kd.R_drewN | apply Kd.R_drew)); exact Kd.R_mono HO312.out (fun _ hk => ⟨hk.2, ⟨hk.1.1, hk.1.2⟩⟩)), (by (with_reducible repeat (first | apply Kd.R_alloc | apply Kd.R_drewN | apply Kd.R_drew)); exact Kd.R_mono HO315.out (fun _ hk => ⟨hk.1.2, ⟨hk.1.1.2, hk.2⟩⟩)), (by (with_reducible repeat (first | apply Kd.R_alloc | apply Kd.R_drewN | apply Kd.R_drew)); exact Kd.R_mono HO_286002.out (fun _ hk => ⟨hk.1.2, ⟨hk.2, hk.1.1⟩⟩)), (by (with_reducible repeat (first | apply Kd.S_alloc | apply Kd.S_drewN | apply Kd.S_drew)); exact Kd.S_mono HO_5.out (fun _ hk => ⟨hk.1.2, ⟨hk.2, ⟨hk.1.1.1, ⟨hk.1.1.2.1, ⟨hk.1.1.2.2.1, hk.1.1.2.2.2⟩⟩⟩⟩⟩)), blkNow, blkNow, blkNow, isAll, (kA_ HK.out), belowAll⟩)
             ·skip
              refine Kd.R_lit_step k45 _ 45 ?hg (N := 54) ?hd (xs := ([(⟨x299000_34, x299001_40⟩ : S45)] : List (S45))) (inner := [.int .i64 x299000_34, .int .i64 x299001_40]) (ok := fun _ => True) (okp := fun _ => True) ?hr ?hp (fun _ hk => hk) trivial (Below.refl _ _) (Nat.le_refl _) (by simp) ?_; (case hd => rfl); (case hg => rfl); (case hr => first | (go_simp; done) | (go_simp; rfl)); (case hp => exact (Reps.c2 (show Kd.M k45 _ _ _ (⟨x299000_34, x299001_40⟩ : S45) [.int .i64 x299000_34, .int .i64 x299001_40] from (k45_mkM _ _ _ (⟨x299000_34, x299001_40⟩ : S45) )) (Reps.none _ _)))
              intro v314 w68 ho69 hb hg_ hnew_
              clear hg_ hnew_
              (first | rw [← Ny313.out] at ho69 | (simp only [Int.reduceToNat] at ho69; rw [← Ny313.out] at ho69))
              have n0_ := Aside0.mk (Kd.S_elder' (pS_ HO_5.out) (Kd.R_base ho69) hb)
              have n1_ := Aside0.mk (Kd.R_elder' (pR_ HO_286002.out) (Kd.R_base ho69) hb)
              have n2_ := Aside0.mk (Kd.R_elder' (pR_ HO309.out) (Kd.R_base ho69) hb)
              have n3_ := Aside0.mk (Kd.R_lower (Kd.R_newB (Kd.R_new' (Kd.R_new' ho69 (Kd.R_lt (pR_ HO_286002.out))) (Kd.R_lt (pR_ HO309.out))) (g := gb298) (o := .cells #[.int .i64 x299000_34, .int .i64 x299001_40] 45 (0, 0)) blkNow) (keep_size (w := w) (g := g) (row := none) (kA_ HK.out)))
              have n4_ := Aside0.mk (blkStep (g := gb285) hb); have n5_ := Aside0.mk (blkStep (g := gb298) hb)
              have n6_ := Aside0.mk (IsS98.below isAll hb)
              have n7_ := Aside0.mk (blkStep (g := gb306) hb)
              have n8_ := Aside0.mk (KeepBut.trans (kA_ HK.out) (KeepBut.of_below hb g none) (.inl rfl))
              have n9_ := Aside0.mk (below_step belowAll hb)
              clear HO_5 HO_286002 HO309 BK285 BK298 HI0 BK306 HK HB; have HO_5 := n0_; have HO_286002 := n1_; have HO309 := n2_; have HO315 := n3_; have BK285 := n4_; have BK298 := n5_; have HI0 := n6_; have BK306 := n7_; have HK := n8_; have HB := n9_; clear n0_ n1_ n2_ n3_ n4_ n5_ n6_ n7_ n8_ n9_ hb ho69
              refine hK.out _ _ ⟨(blk_cell BK285.out 0).trans rfl, (blk_cell BK285.out 1).trans rfl, (blk_cell BK285.out 2).trans rfl, (blk_cell BK298.out 0).trans rfl, (blk_cell BK298.out 1).trans rfl⟩ (fun hHeld => ?_)
              clear hK K
              refine norm_ (a' := ?_) ?_ ?_
              rotate_left
              ·show Act.put _ (some 54) _ = _
               simp only [Act.put, List.setIfInBounds_toArray, List.set_cons_zero, List.set_cons_succ, i64_w, i32_w]
               rfl
              refine one_ (i := 3) (N := some 52) #[true, true, true, true, true, true, false, false, false] rfl rfl (one_of HT_.out (by kernel_rfl)) (by decide) (fun K hK => ?_)
              refine Kd.R_append_rows_step k45 w.heap.size (by rfl) (.tmp 49) (.tmp 51) 41 45 (.agg #[(.int .i64 0), (.int .i64 0)]) 16 rfl Try.underlying41 info45 rfl (by decide) (by omega) v308 y307 x286002_2 _ _ _ (fun k_ => some k_ ≠ (.slice Ao63 x286002_2.length co63 : Value).ownBlock ∧ some k_ ≠ (v314 : Value).ownBlock ∧ k_ ≠ gb298) (fun _ => False) rfl rfl ?aO ?aR (fun _ _ h => h) (fun _ h => h.elim) ?aF (Below.refl _ _) ?aS ?aL ?_
              (case aR => repeat (first | exact (Kd.R_reads' HO_286002.out).2.2 | (with_reducible refine Kd.C_alloc ?_ _) | (with_reducible refine Kd.C_drewN ?_ _) | (with_reducible refine Kd.C_drew ?_)))
              (case aF => exact (fun k_ hk => ⟨Kd.fresh' (Kd.R_lt (pR_ HO_286002.out)) k_ hk, Kd.fresh' (Kd.R_lt (pR_ HO315.out)) k_ hk, Kd.freshB (g := gb298) (o := .cells #[.int .i64 x299000_34, .int .i64 x299001_40] 45 (0, 0)) blkNow k_ hk⟩))
              (case aO => exact (by (with_reducible repeat (first | apply Kd.R_alloc | apply Kd.R_drewN | apply Kd.R_drew)); exact Kd.R_mono HO309.out (fun _ hk => ⟨hk.1.1.2, ⟨hk.2, hk.1.2⟩⟩)))
              (case aS => exact (keep_size (w := w) (g := g) (row := none) (kA_ HK.out)))
              (case aL => have := LMc51.out; omega)
              intro v311 w70 ho hb hg hat
              rw [← Ny310.out] at ho
              have n0_ := Aside0.mk (Kd.S_after (ok := (fun k_ => some k_ ≠ (.slice Ao63 x286002_2.length co63 : Value).ownBlock ∧ some k_ ≠ (v314 : Value).ownBlock ∧ k_ ≠ gb285 ∧ k_ ≠ gb298 ∧ k_ ≠ gb306)) (by (with_reducible repeat (first | apply Kd.S_alloc | apply Kd.S_drewN | apply Kd.S_drew)); exact Kd.S_mono HO_5.out (fun _ hk => ⟨⟨hk.1.1.1, ⟨hk.2, ⟨hk.1.1.2.1, ⟨hk.1.1.2.2.1, hk.1.1.2.2.2⟩⟩⟩⟩, hk.1.2⟩)) hg hat)
              have n1_ := Aside0.mk (Kd.R_after (ok := (fun k_ => some k_ ≠ (v314 : Value).ownBlock ∧ k_ ≠ gb298)) (by (with_reducible repeat (first | apply Kd.R_alloc | apply Kd.R_drewN | apply Kd.R_drew)); exact Kd.R_mono HO_286002.out (fun _ hk => ⟨⟨hk.2, hk.1.1⟩, hk.1.2⟩)) hg hat)
              have n2_ := Aside0.mk (blk_grown (g := gb285) (o := .cells #[.bool x286000_2, .bool x286001_2, .slice Ao63 x286002_2.length co63] 43 (0, 0)) blkNow hg (Kd.R_ne HO309.out BK285.out (by decide)))
              have n3_ := Aside0.mk (blk_grown (g := gb298) (o := .cells #[.int .i64 x299000_34, .int .i64 x299001_40] 45 (0, 0)) blkNow hg (Kd.R_away HO309.out (fun _ hk => hk.1.2)))
              have n4_ := Aside0.mk (IsS98.grown isAll hg (IsS98.own_ne HI0.out HO309.out (by decide)))
              have n5_ := Aside0.mk (blk_grown (g := gb306) (o := .cells #[.bool x286000_2, .bool x286001_2, .slice Ao63 x286002_2.length co63] 43 (0, 0)) blkNow hg (Kd.R_ne HO309.out BK306.out (by decide)))
              have n6_ := Aside0.mk (Kd.R_after (ok := (fun k_ => some k_ ≠ (.slice Ao63 x286002_2.length co63 : Value).ownBlock ∧ k_ ≠ gb298)) (by (with_reducible repeat (first | apply Kd.R_alloc | apply Kd.R_drewN | apply Kd.R_drew)); exact Kd.R_mono HO315.out (fun _ hk => ⟨⟨hk.1.1.2, hk.2⟩, hk.1.2⟩)) hg hat)
              have n7_ := Aside0.mk (below_weaken (by exact belowAll) HL.out hb)
              have n8_ := Aside0.mk (KeepBut.trans (kA_ HK.out) (KeepBut.of_grown hg g) (Kd.R_base2 HO309.out))
              have n9_ := Aside0.mk (ho); clear HO_5 HO_286002 BK285 BK298 HI0 BK306 HO315 HB HK HO309; have HO_5 := n0_; have HO_286002 := n1_; have BK285 := n2_; have BK298 := n3_; have HI0 := n4_; have BK306 := n5_; have HO315 := n6_; have HB := n7_; have HK := n8_; have HO312 := n9_; clear n0_ n1_ n2_ n3_ n4_ n5_ n6_ n7_ n8_ n9_ ho hb hg hat
              refine hK.out _ _ ⟨(blk_cell BK285.out 0).trans rfl, (blk_cell BK285.out 1).trans rfl, (blk_cell BK285.out 2).trans rfl, (blk_cell BK298.out 0).trans rfl, (blk_cell BK298.out 1).trans rfl⟩ (fun hHeld => ?_)
              clear hK K
              refine norm_ (a' := ?_) ?_ ?_
              rotate_left
              ·show Act.put _ (some 52) _ = _
               simp only [Act.put, List.setIfInBounds_toArray, List.set_cons_zero, List.set_cons_succ, i64_w, i32_w]
               rfl
              exact norm_ (by simp only [putAll, Act.put, List.setIfInBounds_toArray, List.set_cons_zero, List.set_cons_succ]) (hCont (v308, v311, v314) _ ⟨hHeld, (by (with_reducible repeat (first | apply Kd.R_alloc | apply Kd.R_drewN | apply Kd.R_drew)); exact Kd.R_mono HO312.out (fun _ hk => ⟨hk.2.1, ⟨hk.1, hk.2.2⟩⟩)), (by (with_reducible repeat (first | apply Kd.R_alloc | apply Kd.R_drewN | apply Kd.R_drew)); exact Kd.R_mono HO315.out (fun _ hk => ⟨hk.2, ⟨hk.1.1, hk.1.2⟩⟩)), (by (with_reducible repeat (first | apply Kd.R_alloc | apply Kd.R_drewN | apply Kd.R_drew)); exact Kd.R_mono HO_286002.out (fun _ hk => ⟨hk.2, ⟨hk.1.1, hk.1.2⟩⟩)), (by (with_reducible repeat (first | apply Kd.S_alloc | apply Kd.S_drewN | apply Kd.S_drew)); exact Kd.S_mono HO_5.out (fun _ hk => ⟨hk.2, ⟨hk.1.2.1, ⟨hk.1.1, ⟨hk.1.2.2.1, ⟨hk.1.2.2.2.1, hk.1.2.2.2.2⟩⟩⟩⟩⟩)), blkNow, blkNow, blkNow, isAll, (kA_ HK.out), belowAll⟩)
            ·skip
             refine Kd.R_lit_step k45 _ 45 ?hg (N := 54) ?hd (xs := ([(⟨x299000_34, x299001_40⟩ : S45)] : List (S45))) (inner := [.int .i64 x299000_34, .int .i64 x299001_40]) (ok := fun _ => True) (okp := fun _ => True) ?hr ?hp (fun _ hk => hk) trivial (Below.refl _ _) (Nat.le_refl _) (by simp) ?_; (case hd => rfl); (case hg => rfl); (case hr => first | (go_simp; done) | (go_simp; rfl)); (case hp => exact (Reps.c2 (show Kd.M k45 _ _ _ (⟨x299000_34, x299001_40⟩ : S45) [.int .i64 x299000_34, .int .i64 x299001_40] from (k45_mkM _ _ _ (⟨x299000_34, x299001_40⟩ : S45) )) (Reps.none _ _)))
             intro v314 w66 ho67 hb hg_ hnew_
             clear hg_ hnew_
             (first | rw [← Ny313.out] at ho67 | (simp only [Int.reduceToNat] at ho67; rw [← Ny313.out] at ho67))
             have n0_ := Aside0.mk (Kd.S_elder' (pS_ HO_5.out) (Kd.R_base ho67) hb)
             have n1_ := Aside0.mk (Kd.R_elder' (pR_ HO_286002.out) (Kd.R_base ho67) hb)
             have n2_ := Aside0.mk (Kd.R_lower (Kd.R_newB (Kd.R_new' ho67 (Kd.R_lt (pR_ HO_286002.out))) (g := gb298) (o := .cells #[.int .i64 x299000_34, .int .i64 x299001_40] 45 (0, 0)) blkNow) (keep_size (w := w) (g := g) (row := none) (kA_ HK.out)))
             have n3_ := Aside0.mk (blkStep (g := gb285) hb); have n4_ := Aside0.mk (blkStep (g := gb298) hb)
             have n5_ := Aside0.mk (IsS98.below isAll hb)
             have n6_ := Aside0.mk (blkStep (g := gb306) hb)
             have n7_ := Aside0.mk (KeepBut.trans (kA_ HK.out) (KeepBut.of_below hb g none) (.inl rfl))
             have n8_ := Aside0.mk (below_step belowAll hb)
             clear HO_5 HO_286002 BK285 BK298 HI0 BK306 HK HB; have HO_5 := n0_; have HO_286002 := n1_; have HO315 := n2_; have BK285 := n3_; have BK298 := n4_; have HI0 := n5_; have BK306 := n6_; have HK := n7_; have HB := n8_; clear n0_ n1_ n2_ n3_ n4_ n5_ n6_ n7_ n8_ hb ho67
             refine hK.out _ _ ⟨(blk_cell BK285.out 0).trans rfl, (blk_cell BK285.out 1).trans rfl, (blk_cell BK285.out 2).trans rfl, (blk_cell BK298.out 0).trans rfl, (blk_cell BK298.out 1).trans rfl⟩ (fun hHeld => ?_)
             clear hK K
             refine norm_ (a' := ?_) ?_ ?_
             rotate_left
             ·show Act.put _ (some 54) _ = _
              simp only [Act.put, List.setIfInBounds_toArray, List.set_cons_zero, List.set_cons_succ, i64_w, i32_w]
              rfl
             refine one_ (i := 0) (N := some 49) #[true, true, true, false, true, true, false, false, false] rfl rfl (one_of HT_.out (by kernel_rfl)) (by decide) (fun K hK => ?_)
             refine Kd.R_lit_step k45 _ 45 ?hg (N := 49) ?hd (xs := ([] : List (S45))) (inner := []) (ok := fun _ => True) (okp := fun _ => True) ?hr ?hp (fun _ hk => hk) trivial (Below.refl _ _) (Nat.le_refl _) (by simp) ?_; (case hd => rfl); (case hg => rfl); (case hr => first | (go_simp; done) | (go_simp; rfl)); (case hp => exact (Reps.none _ _))
             intro v308 w68 ho69 hb hg_ hnew_
             clear hg_ hnew_
             (first | rw [← Ny307.out] at ho69 | (simp only [Int.reduceToNat] at ho69; rw [← Ny307.out] at ho69))
             have n0_ := Aside0.mk (Kd.S_elder' (pS_ HO_5.out) (Kd.R_base ho69) hb)
             have n1_ := Aside0.mk (Kd.R_elder' (pR_ HO_286002.out) (Kd.R_base ho69) hb)
             have n2_ := Aside0.mk (Kd.R_elder' (pR_ HO315.out) (Kd.R_base ho69) hb)
             have n3_ := Aside0.mk (Kd.R_lower (Kd.R_newB (Kd.R_new' (Kd.R_new' ho69 (Kd.R_lt (pR_ HO_286002.out))) (Kd.R_lt (pR_ HO315.out))) (g := gb298) (o := .cells #[.int .i64 x299000_34, .int .i64 x299001_40] 45 (0, 0)) blkNow) (keep_size (w := w) (g := g) (row := none) (kA_ HK.out)))
             have n4_ := Aside0.mk (blkStep (g := gb285) hb); have n5_ := Aside0.mk (blkStep (g := gb298) hb)
             have n6_ := Aside0.mk (IsS98.below isAll hb)
             have n7_ := Aside0.mk (blkStep (g := gb306) hb)
             have n8_ := Aside0.mk (KeepBut.trans (kA_ HK.out) (KeepBut.of_below hb g none) (.inl rfl))
             have n9_ := Aside0.mk (below_step belowAll hb)
             clear HO_5 HO_286002 HO315 BK285 BK298 HI0 BK306 HK HB; have HO_5 := n0_; have HO_286002 := n1_; have HO315 := n2_; have HO309 := n3_; have BK285 := n4_; have BK298 := n5_; have HI0 := n6_; have BK306 := n7_; have HK := n8_; have HB := n9_; clear n0_ n1_ n2_ n3_ n4_ n5_ n6_ n7_ n8_ n9_ hb ho69
             refine hK.out _ _ ⟨(blk_cell BK285.out 0).trans rfl, (blk_cell BK285.out 1).trans rfl, (blk_cell BK285.out 2).trans rfl, (blk_cell BK298.out 0).trans rfl, (blk_cell BK298.out 1).trans rfl⟩ (fun hHeld => ?_)
             clear hK K
             refine norm_ (a' := ?_) ?_ ?_
             rotate_left
             ·show Act.put _ (some 49) _ = _
              simp only [Act.put, List.setIfInBounds_toArray, List.set_cons_zero, List.set_cons_succ, i64_w, i32_w]
              rfl
             refine one_ (i := 3) (N := some 52) #[true, true, true, true, true, true, false, false, false] rfl rfl (one_of HT_.out (by kernel_rfl)) (by decide) (fun K hK => ?_)
             refine Kd.R_append_rows_step k45 w.heap.size (by rfl) (.tmp 49) (.tmp 51) 41 45 (.agg #[(.int .i64 0), (.int .i64 0)]) 16 rfl Try.underlying41 info45 rfl (by decide) (by omega) v308 y307 x286002_2 _ _ _ (fun k_ => some k_ ≠ (.slice Ao63 x286002_2.length co63 : Value).ownBlock ∧ some k_ ≠ (v314 : Value).ownBlock ∧ k_ ≠ gb298) (fun _ => False) rfl rfl ?aO ?aR (fun _ _ h => h) (fun _ h => h.elim) ?aF (Below.refl _ _) ?aS ?aL ?_
             (case aR => repeat (first | exact (Kd.R_reads' HO_286002.out).2.2 | (with_reducible refine Kd.C_alloc ?_ _) | (with_reducible refine Kd.C_drewN ?_ _) | (with_reducible refine Kd.C_drew ?_)))
             (case aF => exact (fun k_ hk => ⟨Kd.fresh' (Kd.R_lt (pR_ HO_286002.out)) k_ hk, Kd.fresh' (Kd.R_lt (pR_ HO315.out)) k_ hk, Kd.freshB (g := gb298) (o := .cells #[.int .i64 x299000_34, .int .i64 x299001_40] 45 (0, 0)) blkNow k_ hk⟩))
             (case aO => exact (by (with_reducible repeat (first | apply Kd.R_alloc | apply Kd.R_drewN | apply Kd.R_drew)); exact Kd.R_mono HO309.out (fun _ hk => ⟨hk.1.1.2, ⟨hk.1.2, hk.2⟩⟩)))
             (case aS => exact (keep_size (w := w) (g := g) (row := none) (kA_ HK.out)))
             (case aL => have := LMc51.out; omega)
             intro v311 w70 ho hb hg hat
             rw [← Ny310.out] at ho
             have n0_ := Aside0.mk (Kd.S_after (ok := (fun k_ => some k_ ≠ (.slice Ao63 x286002_2.length co63 : Value).ownBlock ∧ some k_ ≠ (v314 : Value).ownBlock ∧ k_ ≠ gb285 ∧ k_ ≠ gb298 ∧ k_ ≠ gb306)) (by (with_reducible repeat (first | apply Kd.S_alloc | apply Kd.S_drewN | apply Kd.S_drew)); exact Kd.S_mono HO_5.out (fun _ hk => ⟨⟨hk.1.1.1, ⟨hk.1.2, ⟨hk.1.1.2.1, ⟨hk.1.1.2.2.1, hk.1.1.2.2.2⟩⟩⟩⟩, hk.2⟩)) hg hat)
             have n1_ := Aside0.mk (Kd.R_after (ok := (fun k_ => some k_ ≠ (v314 : Value).ownBlock ∧ k_ ≠ gb298)) (by (with_reducible repeat (first | apply Kd.R_alloc | apply Kd.R_drewN | apply Kd.R_drew)); exact Kd.R_mono HO_286002.out (fun _ hk => ⟨⟨hk.1.2, hk.1.1⟩, hk.2⟩)) hg hat)
             have n2_ := Aside0.mk (blk_grown (g := gb285) (o := .cells #[.bool x286000_2, .bool x286001_2, .slice Ao63 x286002_2.length co63] 43 (0, 0)) blkNow hg (Kd.R_ne HO309.out BK285.out (by decide)))
             have n3_ := Aside0.mk (blk_grown (g := gb298) (o := .cells #[.int .i64 x299000_34, .int .i64 x299001_40] 45 (0, 0)) blkNow hg (Kd.R_away HO309.out (fun _ hk => hk.2)))
             have n4_ := Aside0.mk (IsS98.grown isAll hg (IsS98.own_ne HI0.out HO309.out (by decide)))
             have n5_ := Aside0.mk (blk_grown (g := gb306) (o := .cells #[.bool x286000_2, .bool x286001_2, .slice Ao63 x286002_2.length co63] 43 (0, 0)) blkNow hg (Kd.R_ne HO309.out BK306.out (by decide)))
             have n6_ := Aside0.mk (Kd.R_after (ok := (fun k_ => some k_ ≠ (.slice Ao63 x286002_2.length co63 : Value).ownBlock ∧ k_ ≠ gb298)) (by (with_reducible repeat (first | apply Kd.R_alloc | apply Kd.R_drewN | apply Kd.R_drew)); exact Kd.R_mono HO315.out (fun _ hk => ⟨⟨hk.1.1.2, hk.1.2⟩, hk.2⟩)) hg hat)
             have n7_ := Aside0.mk (below_weaken (by exact belowAll) HL.out hb)
             have n8_ := Aside0.mk (KeepBut.trans (kA_ HK.out) (KeepBut.of_grown hg g) (Kd.R_base2 HO309.out))
             have n9_ := Aside0.mk (ho); clear HO_5 HO_286002 BK285 BK298 HI0 BK306 HO315 HB HK HO309; have HO_5 := n0_; have HO_286002 := n1_; have BK285 := n2_; have BK298 := n3_; have HI0 := n4_; have BK306 := n5_; have HO315 := n6_; have HB := n7_; have HK := n8_; have HO312 := n9_; clear n0_ n1_ n2_ n3_ n4_ n5_ n6_ n7_ n8_ n9_ ho hb hg hat
             refine hK.out _ _ ⟨(blk_cell BK285.out 0).trans rfl, (blk_cell BK285.out 1).trans rfl, (blk_cell BK285.out 2).trans rfl, (blk_cell BK298.out 0).trans rfl, (blk_cell BK298.out 1).trans rfl⟩ (fun hHeld => ?_)
             clear hK K
             refine norm_ (a' := ?_) ?_ ?_
             rotate_left
             ·show Act.put _ (some 52) _ = _
              simp only [Act.put, List.setIfInBounds_toArray, List.set_cons_zero, List.set_cons_succ, i64_w, i32_w]
              rfl
             exact norm_ (by simp only [putAll, Act.put, List.setIfInBounds_toArray, List.set_cons_zero, List.set_cons_succ]) (hCont (v308, v311, v314) _ ⟨hHeld, (by (with_reducible repeat (first | apply Kd.R_alloc | apply Kd.R_drewN | apply Kd.R_drew)); exact Kd.R_mono HO312.out (fun _ hk => ⟨hk.2.1, ⟨hk.1, hk.2.2⟩⟩)), (by (with_reducible repeat (first | apply Kd.R_alloc | apply Kd.R_drewN | apply Kd.R_drew)); exact Kd.R_mono HO315.out (fun _ hk => ⟨hk.2, ⟨hk.1.1, hk.1.2⟩⟩)), (by (with_reducible repeat (first | apply Kd.R_alloc | apply Kd.R_drewN | apply Kd.R_drew)); exact Kd.R_mono HO_286002.out (fun _ hk => ⟨hk.2, ⟨hk.1.1, hk.1.2⟩⟩)), (by (with_reducible repeat (first | apply Kd.S_alloc | apply Kd.S_drewN | apply Kd.S_drew)); exact Kd.S_mono HO_5.out (fun _ hk => ⟨hk.2, ⟨hk.1.2.1, ⟨hk.1.1, ⟨hk.1.2.2.1, ⟨hk.1.2.2.2.1, hk.1.2.2.2.2⟩⟩⟩⟩⟩)), blkNow, blkNow, blkNow, isAll, (kA_ HK.out), belowAll⟩)
           rintro ⟨v308, v311, v314⟩ w71 ⟨hS_, h0_, h1_, h2_, h3_, h4_, h5_, h6_, h7_, h8_, h9_⟩
           have n0_ : Aside0 (Kd.R k45 45 w71 w.heap.size (fun k_ => some k_ ≠ (v314 : Value).ownBlock ∧ some k_ ≠ (.slice Ao63 x286002_2.length co63 : Value).ownBlock ∧ k_ ≠ gb298) v311 y310) := ⟨h0_⟩
           have n1_ : Aside0 (Kd.R k45 45 w71 w.heap.size (fun k_ => some k_ ≠ (v311 : Value).ownBlock ∧ some k_ ≠ (.slice Ao63 x286002_2.length co63 : Value).ownBlock ∧ k_ ≠ gb298) v314 y313) := ⟨h1_⟩
           have n2_ : Aside0 (Kd.R k45 45 w71 w.heap.size (fun k_ => some k_ ≠ (v311 : Value).ownBlock ∧ some k_ ≠ (v314 : Value).ownBlock ∧ k_ ≠ gb298) (.slice Ao63 x286002_2.length co63) x286002_2) := ⟨h2_⟩
           have n3_ : Aside0 (Kd.S k43 43 w71 w.heap.size (fun k_ => some k_ ≠ (v311 : Value).ownBlock ∧ some k_ ≠ (v314 : Value).ownBlock ∧ some k_ ≠ (.slice Ao63 x286002_2.length co63 : Value).ownBlock ∧ k_ ≠ gb285 ∧ k_ ≠ gb298 ∧ k_ ≠ gb306) u5 x5_1) := ⟨h3_⟩
           have n4_ : Aside0 (w71.heap[gb285]? = some (.cells #[.bool x286000_2, .bool x286001_2, .slice Ao63 x286002_2.length co63] 43 (0, 0))) := ⟨h4_⟩; have n5_ : Aside0 (w71.heap[gb298]? = some (.cells #[.int .i64 x299000_34, .int .i64 x299001_40] 45 (0, 0))) := ⟨h5_⟩; have n6_ : Aside0 (w71.heap[gb306]? = some (.cells #[.bool x286000_2, .bool x286001_2, .slice Ao63 x286002_2.length co63] 43 (0, 0))) := ⟨h6_⟩; have n7_ : Aside0 (IsS98 w0 w71 g s0_0 x1001_40 x1002_40) := ⟨h7_⟩; have n8_ : Aside0 (KeepBut w w71 g none) := ⟨h8_⟩; have n9_ : Aside0 (Below w0.heap.size w0 w71) := ⟨h9_⟩; clear HO_5 HO_286002 BK285 BK298 BK306 HI0 HK HB h0_ h1_ h2_ h3_ h4_ h5_ h6_ h7_ h8_ h9_; have HO312 := n0_; have HO315 := n1_; have HO_286002 := n2_; have HO_5 := n3_; have BK285 := n4_; have BK298 := n5_; have BK306 := n6_; have HI0 := n7_; have HK := n8_; have HB := n9_; clear n0_ n1_ n2_ n3_ n4_ n5_ n6_ n7_ n8_ n9_; have hHeld : w71.cell? ⟨gb285, 0, none⟩ = some (.bool x286000_2) ∧ w71.cell? ⟨gb285, 1, none⟩ = some (.bool x286001_2) ∧ w71.cell? ⟨gb285, 2, none⟩ = some (.slice Ao63 x286002_2.length co63) ∧ w71.cell? ⟨gb298, 0, none⟩ = some (.int .i64 x299000_34) ∧ w71.cell? ⟨gb298, 1, none⟩ = some (.int .i64 x299001_40) := hS_; obtain ⟨Ao73, co73, eo73⟩ := Kd.R_slice HO315.out
           (first | subst eo73 | (injection eo73 with f1_ f2_ f3_; have f4_ := f1_.symm; have f5_ := f3_.symm; clear f1_ f2_ f3_; subst f4_; subst f5_))
           refine norm_ (a' := ?_) ?_ ?_
           rotate_left
           ·simp only [putAll, Act.put, List.setIfInBounds_toArray, List.set_cons_zero, List.set_cons_succ]
            rfl
           refine one_ (i := 6) (N := some 55) #[true, true, true, true, true, true, true, false, false] rfl rfl (one_of HT_.out (by kernel_rfl)) (by decide) (fun K hK => ?_)
           refine Kd.R_append_rows_step k45 w.heap.size (by rfl) (.tmp 52) (.tmp 54) 41 45 (.agg #[(.int .i64 0), (.int .i64 0)]) 16 rfl Try.underlying41 info45 rfl (by decide) (by omega) v311 y310 y313 _ _ _ (fun k_ => some k_ ≠ (.slice Ao63 x286002_2.length co63 : Value).ownBlock ∧ some k_ ≠ (.slice Ao73 y313.length co73 : Value).ownBlock ∧ k_ ≠ gb298) (fun _ => False) rfl rfl ?aO ?aR (fun _ _ h => h) (fun _ h => h.elim) ?aF (Below.refl _ _) ?aS ?aL ?_
           (case aR => repeat (first | exact (Kd.R_reads' HO315.out).2.2 | (with_reducible refine Kd.C_alloc ?_ _) | (with_reducible refine Kd.C_drewN ?_ _) | (with_reducible refine Kd.C_drew ?_)))
           (case aF => exact (fun k_ hk => ⟨Kd.fresh' (Kd.R_lt (pR_ HO_286002.out)) k_ hk, Kd.fresh' (Kd.R_lt (pR_ HO315.out)) k_ hk, Kd.freshB (g := gb298) (o := .cells #[.int .i64 x299000_34, .int .i64 x299001_40] 45 (0, 0)) blkNow k_ hk⟩))
           (case aO => exact (by (with_reducible repeat (first | apply Kd.R_alloc | apply Kd.R_drewN | apply Kd.R_drew)); exact Kd.R_mono HO312.out (fun _ hk => ⟨hk.2.1, ⟨hk.1, hk.2.2⟩⟩)))
           (case aS => exact (keep_size (w := w) (g := g) (row := none) (kA_ HK.out)))
           (case aL => have := LMc52.out; omega)
           intro v317 w72 ho hb hg hat
           rw [← Ny316.out] at ho
           have n0_ := Aside0.mk (Kd.S_after (ok := (fun k_ => some k_ ≠ (.slice Ao63 x286002_2.length co63 : Value).ownBlock ∧ some k_ ≠ (.slice Ao73 y313.length co73 : Value).ownBlock ∧ k_ ≠ gb285 ∧ k_ ≠ gb298 ∧ k_ ≠ gb306)) (by (with_reducible repeat (first | apply Kd.S_alloc | apply Kd.S_drewN | apply Kd.S_drew)); exact Kd.S_mono HO_5.out (fun _ hk => ⟨⟨hk.2.2.1, ⟨hk.2.1, ⟨hk.2.2.2.1, ⟨hk.2.2.2.2.1, hk.2.2.2.2.2⟩⟩⟩⟩, hk.1⟩)) hg hat)
           have n1_ := Aside0.mk (Kd.R_after (ok := (fun k_ => some k_ ≠ (.slice Ao73 y313.length co73 : Value).ownBlock ∧ k_ ≠ gb298)) (by (with_reducible repeat (first | apply Kd.R_alloc | apply Kd.R_drewN | apply Kd.R_drew)); exact Kd.R_mono HO_286002.out (fun _ hk => ⟨⟨hk.2.1, hk.2.2⟩, hk.1⟩)) hg hat)
           have n2_ := Aside0.mk (blk_grown (g := gb285) (o := .cells #[.bool x286000_2, .bool x286001_2, .slice Ao63 x286002_2.length co63] 43 (0, 0)) blkNow hg (Kd.R_ne HO312.out BK285.out (by decide)))
           have n3_ := Aside0.mk (blk_grown (g := gb298) (o := .cells #[.int .i64 x299000_34, .int .i64 x299001_40] 45 (0, 0)) blkNow hg (Kd.R_away HO312.out (fun _ hk => hk.2.2)))
           have n4_ := Aside0.mk (IsS98.grown isAll hg (IsS98.own_ne HI0.out HO312.out (by decide)))
           have n5_ := Aside0.mk (blk_grown (g := gb306) (o := .cells #[.bool x286000_2, .bool x286001_2, .slice Ao63 x286002_2.length co63] 43 (0, 0)) blkNow hg (Kd.R_ne HO312.out BK306.out (by decide)))
           have n6_ := Aside0.mk (Kd.R_after (ok := (fun k_ => some k_ ≠ (.slice Ao63 x286002_2.length co63 : Value).ownBlock ∧ k_ ≠ gb298)) (by (with_reducible repeat (first | apply Kd.R_alloc | apply Kd.R_drewN | apply Kd.R_drew)); exact Kd.R_mono HO315.out (fun _ hk => ⟨⟨hk.2.1, hk.2.2⟩, hk.1⟩)) hg hat)
           have n7_ := Aside0.mk (below_weaken (by exact belowAll) HL.out hb)
           have n8_ := Aside0.mk (KeepBut.trans (kA_ HK.out) (KeepBut.of_grown hg g) (Kd.R_base2 HO312.out))
           have n9_ := Aside0.mk (ho); clear HO_5 HO_286002 BK285 BK298 HI0 BK306 HO315 HB HK HO312; have HO_5 := n0_; have HO_286002 := n1_; have BK285 := n2_; have BK298 := n3_; have HI0 := n4_; have BK306 := n5_; have HO315 := n6_; have HB := n7_; have HK := n8_; have HO318 := n9_; clear n0_ n1_ n2_ n3_ n4_ n5_ n6_ n7_ n8_ n9_ ho hb hg hat; obtain ⟨Ao74, co74, eo74⟩ := Kd.R_slice HO318.out
           (first | subst eo74 | (injection eo74 with f1_ f2_ f3_; have f4_ := f1_.symm; have f5_ := f3_.symm; clear f1_ f2_ f3_; subst f4_; subst f5_))
           refine hK.out _ _ ⟨(blk_cell BK285.out 0).trans rfl, (blk_cell BK285.out 1).trans rfl, (blk_cell BK285.out 2).trans rfl, (blk_cell BK298.out 0).trans rfl, (blk_cell BK298.out 1).trans rfl⟩ (fun hHeld => ?_)
           clear hK K
           refine norm_ (a' := ?_) ?_ ?_
           rotate_left
           ·show Act.put _ (some 55) _ = _
            simp only [Act.put, List.setIfInBounds_toArray, List.set_cons_zero, List.set_cons_succ, i64_w, i32_w]
            rfl
           refine pure_ (i := 7) (N := some 56) (v := ?_) (a' := ?_) #[true, true, true, true, true, true, true, true, false] rfl rfl (any_of HT_.out (by kernel_rfl)) (fun _ _ _ h => h) (Or.inl ⟨by rfl, ?_⟩) ?_ ?_
           rotate_left
           ·intro w'
            go_simp
            with_reducible rfl
           rotate_left
           ·simp only [Act.put, List.setIfInBounds_toArray, List.set_cons_zero, List.set_cons_succ, i64_w, i32_w]
            rfl
           refine one_ (i := 8) (N := none) #[true, true, true, true, true, true, true, true, true] rfl rfl (one_of HT_.out (by kernel_rfl)) (by decide) (fun K hK => ?_)
           have hs75 : w72.cell? ⟨gb306, 2, none⟩ = some (.slice Ao63 x286002_2.length co63) := (blk_cell BK306.out 2).trans rfl; have hfs75 := blk_frozen BK306.out 2; have hns75_0 := NB285_306.out; have hns75_1 := NB298_306.out; have hms75_0 := NB306_285.out; have hms75_1 := NB306_298.out
           refine skip_ (w1 := ?_) (by rfl) rfl ?_ ?_
           rotate_left
           ·go_simp
            rfl
           refine hK.out _ _ ⟨((cell_far (p := ⟨gb306, _, none⟩) NB285_306.out _).trans (hHeld.1)), ((cell_far (p := ⟨gb306, _, none⟩) NB285_306.out _).trans (hHeld.2.1)), ((cell_far (p := ⟨gb306, _, none⟩) NB285_306.out _).trans (hHeld.2.2.1)), ((cell_far (p := ⟨gb306, _, none⟩) NB298_306.out _).trans (hHeld.2.2.2.1)), ((cell_far (p := ⟨gb306, _, none⟩) NB298_306.out _).trans (hHeld.2.2.2.2))⟩ (fun hHeld => ?_)
           clear hK K
           refine done_ (done_of HT_.out (by kernel_rfl)) ?_
           have hcz76_0 := cz9_ BK306.out 0 rfl; have hcz76_1 := cz9_ BK306.out 1 rfl; have hcz76_2 := cz9_ BK306.out 2 rfl; have hfz76_0 := blk_frozen BK306.out 0; have hfz76_1 := blk_frozen BK306.out 1; have hfz76_2 := blk_frozen BK306.out 2
           try go_wp2_with (first | ((with_reducible refine gate_callee (f := 50) rfl ?_); refine goesL_ (some 59) rfl rfl Try.func50 (by kernel_rfl) rfl #[.agg #[.bool x286000_2, .bool x286001_2, .slice Ao74 y316.length co74], .int .i64 a1] rfl (by (try simp only [List.map_toArray, List.map_cons, List.map_nil]); first | done | rfl | (simp only [List.length_drop, List.length_take]; rfl)) ?_; (with_reducible refine (spec_l7Sub.calls kj40 x286000_2 x286001_2 _ _ y316 a1 true _ ?side1 ?side2 A53.out).mono ?_); (case side1 => refine (Kd.R_reads' (e := 45) (base := w.heap.size) (ok := fun k_ => (some k_ ≠ (.slice Ao63 x286002_2.length co63 : Value).ownBlock ∧ (some k_ ≠ (.slice Ao73 y313.length co73 : Value).ownBlock ∧ k_ ≠ gb298))) (n := y316.length) (c := co74) ?_).2.2; exact (by (with_reducible repeat (first | apply Kd.R_alloc | apply Kd.R_drewN | apply Kd.R_drew)); exact (Kd.R_mono (Kd.R_far (p := ⟨gb306, 2, none⟩) (Kd.R_types HO318.out BK306.out (by decide)) (fun _ hk => hk.2) (.slice Ao74 y316.length co74)) (fun _ h_ => h_.1)))); (case side2 => exact (Kd.R_reads' HO318.out).2.1); rintro e w77 ⟨rfl, hb⟩; refine ⟨_, rfl, ?_⟩; have n0_ := Aside0.mk (Kd.S_below (by (with_reducible repeat (first | apply Kd.S_alloc | apply Kd.S_drewN | apply Kd.S_drew)); exact (Kd.S_mono (Kd.S_far (p := ⟨gb306, 2, none⟩) (Kd.S_mono HO_5.out (fun k_ hk => (⟨hk, hk.1.2.2.2.2⟩ : _ ∧ k_ ≠ gb306))) (fun _ hk => hk.2) (.slice Ao74 y316.length co74)) (fun _ h_ => h_.1))) hb); have n1_ := Aside0.mk (Kd.R_below (by (with_reducible repeat (first | apply Kd.R_alloc | apply Kd.R_drewN | apply Kd.R_drew)); exact (Kd.R_mono (Kd.R_far (p := ⟨gb306, 2, none⟩) (Kd.R_types HO_286002.out BK306.out (by decide)) (fun _ hk => hk.2) (.slice Ao74 y316.length co74)) (fun _ h_ => h_.1))) hb); have n2_ := Aside0.mk (Kd.R_below (by (with_reducible repeat (first | apply Kd.R_alloc | apply Kd.R_drewN | apply Kd.R_drew)); exact (Kd.R_mono (Kd.R_far (p := ⟨gb306, 2, none⟩) (Kd.R_types HO315.out BK306.out (by decide)) (fun _ hk => hk.2) (.slice Ao74 y316.length co74)) (fun _ h_ => h_.1))) hb); have n3_ := Aside0.mk (Kd.R_below (by (with_reducible repeat (first | apply Kd.R_alloc | apply Kd.R_drewN | apply Kd.R_drew)); exact (Kd.R_mono (Kd.R_far (p := ⟨gb306, 2, none⟩) (Kd.R_types HO318.out BK306.out (by decide)) (fun _ hk => hk.2) (.slice Ao74 y316.length co74)) (fun _ h_ => h_.1))) hb); have n4_ := Aside0.mk (blk_below (g := gb285) (o := .cells #[.bool x286000_2, .bool x286001_2, .slice Ao63 x286002_2.length co63] 43 (0, 0)) (blkFars) hb); have n5_ := Aside0.mk (blk_below (g := gb298) (o := .cells #[.int .i64 x299000_34, .int .i64 x299001_40] 45 (0, 0)) (blkFars) hb); have n6_ := Aside0.mk (IsS98.below (show IsS98 w0 (w72.setCell ⟨gb306, 2, none⟩ (.slice Ao74 y316.length co74)) g s0_0 x1001_40 x1002_40 from by exact isAll) hb); have n7_ := Aside0.mk (blk_below (g := gb306) (o := .cells #[.bool x286000_2, .bool x286001_2, .slice Ao74 y316.length co74] 43 (0, 0)) (by (with_reducible repeat (first | refine blk_drewN ?_ _ | refine blk_drew ?_ | refine blk_alloc ?_ _)); refine blk_put (cs := #[.bool x286000_2, .bool x286001_2, .slice Ao63 x286002_2.length co63]) ?_ 2 _ rfl; (with_reducible repeat (first | refine blk_drewN ?_ _ | refine blk_drew ?_ | refine blk_alloc ?_ _)); exact BK306.out) hb); have n8_ := Aside0.mk (KeepBut.trans (kA_ HK.out) (KeepBut.of_below hb g none) (.inl rfl)); have n9_ := Aside0.mk (below_step belowAll hb); clear HO_5; clear HO_286002; clear HO315; clear HO318; clear BK285; clear BK298; clear HI0; clear BK306; clear HK; clear HB; have HO_5 := n0_; have HO_286002 := n1_; have HO315 := n2_; have HO318 := n3_; have BK285 := n4_; have BK298 := n5_; have HI0 := n6_; have BK306 := n7_; have HK := n8_; have HB := n9_; clear n0_ n1_ n2_ n3_ n4_ n5_ n6_ n7_ n8_ n9_; (try clear hb); (try clear hb2); (try clear hk); (try clear hi); have hcz78_0 := cz9_ BK306.out 0 rfl; have hcz78_1 := cz9_ BK306.out 1 rfl; have hcz78_2 := cz9_ BK306.out 2 rfl; have hfz78_0 := blk_frozen BK306.out 0; have hfz78_1 := blk_frozen BK306.out 1; have hfz78_2 := blk_frozen BK306.out 2; have hcz79_0 := cz9_ BK285.out 0 rfl; have hcz79_1 := cz9_ BK285.out 1 rfl; have hcz79_2 := cz9_ BK285.out 2 rfl; have hfz79_0 := blk_frozen BK285.out 0; have hfz79_1 := blk_frozen BK285.out 1; have hfz79_2 := blk_frozen BK285.out 2))
           go_roundg kj40
           case measure => have := HK1.out; have := HK2.out; have := HJ16.out; have := HJ34.out; have := HJ40.out; omega
           case rel => exact ⟨(wrap64 (x8_2 - 1)), (x1001_40), (x1002_40), (x286000_2), (x286001_2), (y316), (.slice Ao74 y316.length co74), (by first | rfl | (simp; done) | (simp [*]; done)), H', ⟨by have := HK1.out; have := HK2.out; have := HJ16.out; have := HJ34.out; have := HJ40.out; omega⟩, ⟨by (with_reducible repeat (first | apply Kd.S_alloc | apply Kd.S_drewN | apply Kd.S_drew)); exact Kd.S_mono (Kd.S_far (p := ⟨gb285, 2, none⟩) (Kd.S_far (p := ⟨gb285, 1, none⟩) (Kd.S_far (p := ⟨gb285, 0, none⟩) (Kd.S_mono HO_5.out (fun k_ hk => (⟨hk, hk.1.2.2.1⟩ : _ ∧ k_ ≠ gb285))) (fun _ hk => hk.2) (.bool x286000_2)) (fun _ hk => hk.2) (.bool x286001_2)) (fun _ hk => hk.2) (.slice Ao74 y316.length co74)) (fun _ hk => ⟨hk.1.2, hk.1.1.2.2.1⟩)⟩, ⟨by (with_reducible repeat (first | apply Kd.R_alloc | apply Kd.R_drewN | apply Kd.R_drew)); exact Kd.R_mono (Kd.R_far (p := ⟨gb285, 2, none⟩) (Kd.R_far (p := ⟨gb285, 1, none⟩) (Kd.R_far (p := ⟨gb285, 0, none⟩) (Kd.R_types HO318.out BK285.out (by decide)) (fun _ hk => hk.2) (.bool x286000_2)) (fun _ hk => hk.2) (.bool x286001_2)) (fun _ hk => hk.2) (.slice Ao74 y316.length co74)) (fun _ hk => trivial)⟩, ⟨by (with_reducible repeat (first | refine blk_drewN ?_ _ | refine blk_drew ?_ | refine blk_alloc ?_ _)); refine blk_put (cs := #[.bool x286000_2, .bool x286001_2, .slice Ao63 x286002_2.length co63]) ?_ 2 _ rfl; (with_reducible repeat (first | refine blk_drewN ?_ _ | refine blk_drew ?_ | refine blk_alloc ?_ _)); refine blk_put (cs := #[.bool x286000_2, .bool x286001_2, .slice Ao63 x286002_2.length co63]) ?_ 1 _ rfl; (with_reducible repeat (first | refine blk_drewN ?_ _ | refine blk_drew ?_ | refine blk_alloc ?_ _)); refine blk_put (cs := #[.bool x286000_2, .bool x286001_2, .slice Ao63 x286002_2.length co63]) ?_ 0 _ rfl; (with_reducible repeat (first | refine blk_drewN ?_ _ | refine blk_drew ?_ | refine blk_alloc ?_ _)); exact BK285.out⟩, ⟨by exact isAll⟩, ⟨by exact (kA_ HK.out)⟩, ⟨by exact belowAll⟩⟩
end Go.Proofs.Ytkcmdfeiaafdjaa.PFnHops
