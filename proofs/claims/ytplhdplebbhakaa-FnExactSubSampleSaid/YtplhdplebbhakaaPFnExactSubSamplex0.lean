/- FnExactSubSample: the walk of the law itself. No condition. -/
import Derived.Test.YtplhdplebbhakaaSmp
import Derived.Deep.RegionHeld3
import Derived.Deep.CutRange
import Derived.Deep.DeepCutAuto
set_option linter.unusedVariables false
set_option linter.unusedSimpArgs false
namespace Go.Proofs.Ytplhdplebbhakaa.PFnExactSubSample
open Go.RowKit Go.Proofs.YtplhdplebbhakaaW.PrintWords Go.Proofs.YtplhdplebbhakaaW.PrintLast Go.Proofs.YtplhdplebbhakaaW.PrintMore Go.Proofs.Ytplhdplebbhakaa.Fl Go.Proofs.Ytplhdplebbhakaa.Smp
theorem alloc_size (w : World) (o : Obj) : (w.alloc o).heap.size = w.heap.size + 1 := by show (w.heap.push o).size = _; simp
theorem alloc_at {w : World} {n : Nat} (h : w.heap.size = n) (o : Obj) : (w.alloc o).heap[n]? = some o := by subst h; exact blk_new w o
theorem blk2 {w : World} {g : Nat} {t : TypeId} {a b u v : Value} (h : w.heap[g]? = some (.cells #[a, b] t (0, 0))) : ((w.setCell ⟨g, 0, none⟩ u).setCell ⟨g, 1, none⟩ v).heap[g]? = some (.cells #[u, v] t (0, 0)) := blk_put (blk_put h 0 u rfl) 1 v rfl
def laws_FnExactSubSample.f (x1 x2 y1 y2 : Nat) : Option Bool := some true
set_option maxHeartbeats 8000000 in
set_option maxRecDepth 100000 in
theorem laws_FnExactSubSample.calls (x1 x2 y1 y2 : Nat) (r : Bool) (w : World) (h : laws_FnExactSubSample.f x1 x2 y1 y2 = some r) :
    Calls Try.prog 6 #[.agg #[.float .f32 x1, .float .f32 x2], .agg #[.float .f32 y1, .float .f32 y2]] w fun e w' => e = .returned (.bool r) ∧ Below w.heap.size w w' := by
  obtain rfl := Option.some.inj h
  have hu22 := Try.underlying22
  have hu24 := Try.underlying24
  have hu26 := Try.underlying26
  have hu30 := Try.underlying30
  have hu32 := Try.underlying32
  have hu34 := Try.underlying34
  go_enter Try.func6, Try.ntmps6
  go_upto_region 0 with fail
  go_cut [2, 3] (fun v2 v3 wc => ∃ g1 g2 : Nat, v2 = .pointer (some ⟨g1, 0, none⟩) ∧ v3 = .pointer (some ⟨g2, 0, none⟩) ∧ Aside0 (wc.heap[g1]? = some (.cells #[.float .f32 x1, .float .f32 x2] 24 (0, 0))) ∧ Aside0 (wc.heap[g2]? = some (.cells #[.float .f32 y1, .float .f32 y2] 24 (0, 0))) ∧ Aside0 (Below w.heap.size w wc))
  case first =>
    go_wp2
    go_meet
    case rel => exact ⟨_, _, rfl, rfl, ⟨blk_alloc (alloc_at rfl _) _⟩, ⟨alloc_at (by rw [alloc_size]) _⟩, ⟨by repeat (first | exact Below.refl _ _ | apply below_alloc)⟩⟩
  case rest =>
  obtain ⟨g1, g2, rfl, rfl, K1, K2, HB⟩ := hcut
  go_upto_region 1 with fail
  have c1 : wc.cell? ⟨g1, 0, none⟩ = some (.float .f32 x1) := (blk_cell K1.out 0).trans rfl
  have c2 : wc.cell? ⟨g1, 1, none⟩ = some (.float .f32 x2) := (blk_cell K1.out 1).trans rfl
  have c3 : wc.cell? ⟨g2, 0, none⟩ = some (.float .f32 y1) := (blk_cell K2.out 0).trans rfl
  have c4 : wc.cell? ⟨g2, 1, none⟩ = some (.float .f32 y2) := (blk_cell K2.out 1).trans rfl
  have KS := Aside0.mk (show ∀ w', Below wc.heap.size wc w' → (w'.cell? ⟨g1, 0, none⟩ = some (.float .f32 x1) ∧ w'.cell? ⟨g1, 1, none⟩ = some (.float .f32 x2) ∧ w'.cell? ⟨g2, 0, none⟩ = some (.float .f32 y1) ∧ w'.cell? ⟨g2, 1, none⟩ = some (.float .f32 y2) ∧ Below wc.heap.size wc w') from fun w' h => ⟨(h.cell (World.block_lt_of_cell? wc _ c1)).trans c1, (h.cell (World.block_lt_of_cell? wc _ c2)).trans c2, (h.cell (World.block_lt_of_cell? wc _ c3)).trans c3, (h.cell (World.block_lt_of_cell? wc _ c4)).trans c4, h⟩)
  go_cut [5] (fun v5 wd => ∃ g r1 r2 : Nat, v5 = .pointer (some ⟨g, 0, none⟩) ∧ Aside0 (wd.heap[g]? = some (.cells #[.float .f32 r1, .float .f32 r2] 26 (0, 0))) ∧ Aside0 (Res .f32 (floatBits .sub .f32 x1 y1) r1) ∧ Aside0 (Res .f32 (floatBits .sub .f32 x2 y2) r2) ∧ Aside0 (wc.heap.size ≤ g) ∧ Aside0 (Below wc.heap.size wc wd))
  case first =>
    go_region_held3 (fun w' => w'.cell? ⟨g1, 0, none⟩ = some (.float .f32 x1) ∧ w'.cell? ⟨g1, 1, none⟩ = some (.float .f32 x2) ∧ w'.cell? ⟨g2, 0, none⟩ = some (.float .f32 y1) ∧ w'.cell? ⟨g2, 1, none⟩ = some (.float .f32 y2) ∧ Below wc.heap.size wc w') ((refine KS.out _ ?_; (repeat (first | (with_reducible first | assumption | exact Below.refl _ _ | apply below_drew1 | apply below_alloc | apply pw_below_drewN | (refine below_step ?_ (by assumption)) | (refine below_set ?_ (below_size ?_)))))))
      ((first | (go_at_call 13; refine (toSample.calls _ _ _).mono ?_; rintro e w' ⟨rfl, hb⟩; (first | (have q_ := blk_below (alloc_at (w := wc.drew) (n := wc.heap.size) rfl _) hb; have e0 := (blk_cell q_ 0).trans (show _ = some (Value.float .f32 0) from rfl); have e1 := (blk_cell q_ 1).trans (show _ = some (Value.float .f32 0) from rfl); have f0 := blk_frozen q_ 0; have f1 := blk_frozen q_ 1) | (have q_ := blk_below (alloc_at rfl _) hb; have e0 := (blk_cell q_ 0).trans (show _ = some (Value.float .f32 0) from rfl); have e1 := (blk_cell q_ 1).trans (show _ = some (Value.float .f32 0) from rfl); have f0 := blk_frozen q_ 0; have f1 := blk_frozen q_ 1) | (have q_ := blk_below (by assumption) hb; have e0 := (blk_cell q_ 0).trans (show _ = some (Value.float .f32 0) from rfl); have e1 := (blk_cell q_ 1).trans (show _ = some (Value.float .f32 0) from rfl); have f0 := blk_frozen q_ 0; have f1 := blk_frozen q_ 1) | skip)) | (go_at_call 21; refine (spec_SubSample.calls _ _ _ _ _).mono ?_; rintro e w' ⟨r1, r2, rfl, h1, h2, hb⟩; have A1 := Aside0.mk (show Res .f32 (floatBits .sub .f32 x1 y1) r1 from h1); have A2 := Aside0.mk (show Res .f32 (floatBits .sub .f32 x2 y2) r2 from h2); (first | (have q_ := blk_below (alloc_at (w := wc.drew) (n := wc.heap.size) rfl _) hb; have e0 := (blk_cell q_ 0).trans (show _ = some (Value.float .f32 0) from rfl); have e1 := (blk_cell q_ 1).trans (show _ = some (Value.float .f32 0) from rfl); have f0 := blk_frozen q_ 0; have f1 := blk_frozen q_ 1) | (have q_ := blk_below (alloc_at rfl _) hb; have e0 := (blk_cell q_ 0).trans (show _ = some (Value.float .f32 0) from rfl); have e1 := (blk_cell q_ 1).trans (show _ = some (Value.float .f32 0) from rfl); have f0 := blk_frozen q_ 0; have f1 := blk_frozen q_ 1) | (have q_ := blk_below (by assumption) hb; have e0 := (blk_cell q_ 0).trans (show _ = some (Value.float .f32 0) from rfl); have e1 := (blk_cell q_ 1).trans (show _ = some (Value.float .f32 0) from rfl); have f0 := blk_frozen q_ 0; have f1 := blk_frozen q_ 1) | skip))))
    all_goals (go_wp2_with fail; go_meet; (case rel => exact ⟨_, r1, r2, rfl, ⟨by first | exact alloc_at rfl _ | exact blk2 (alloc_at rfl _) | exact blk2 (by assumption) | exact blk2 (blk_drewN (by assumption) _)⟩, A1, A2, ⟨by first | exact (below_size (by repeat (first | (with_reducible first | assumption | exact Below.refl _ _ | apply below_drew1 | apply below_alloc | apply pw_below_drewN | (refine below_step ?_ (by assumption)) | (refine below_set ?_ (below_size ?_)))))) | exact Nat.le_refl _⟩, ⟨by repeat (first | (with_reducible first | assumption | exact Below.refl _ _ | apply below_drew1 | apply below_alloc | apply pw_below_drewN | (refine below_step ?_ (by assumption)) | (refine below_set ?_ (below_size ?_))))⟩⟩))
  case rest =>
  obtain ⟨g0, s1, s2, rfl, K0, S1, S2, HG0, HB1⟩ := hcut
  clear KS c1 c2 c3 c4
  have n1 := Aside0.mk (blk_below K1.out HB1.out)
  have n2 := Aside0.mk (blk_below K2.out HB1.out)
  have HBn := Aside0.mk (below_step HB.out HB1.out)
  have K1 := n1
  have K2 := n2
  have HB := HBn
  clear HBn HB1 HG0 n1 n2
  go_upto_region 2 with fail
  have c1 : wc.cell? ⟨g1, 0, none⟩ = some (.float .f32 x1) := (blk_cell K1.out 0).trans rfl
  have c2 : wc.cell? ⟨g1, 1, none⟩ = some (.float .f32 x2) := (blk_cell K1.out 1).trans rfl
  have c3 : wc.cell? ⟨g2, 0, none⟩ = some (.float .f32 y1) := (blk_cell K2.out 0).trans rfl
  have c4 : wc.cell? ⟨g2, 1, none⟩ = some (.float .f32 y2) := (blk_cell K2.out 1).trans rfl
  have KS := Aside0.mk (show ∀ w', Below wc.heap.size wc w' → (w'.cell? ⟨g1, 0, none⟩ = some (.float .f32 x1) ∧ w'.cell? ⟨g1, 1, none⟩ = some (.float .f32 x2) ∧ w'.cell? ⟨g2, 0, none⟩ = some (.float .f32 y1) ∧ w'.cell? ⟨g2, 1, none⟩ = some (.float .f32 y2) ∧ Below wc.heap.size wc w') from fun w' h => ⟨(h.cell (World.block_lt_of_cell? wc _ c1)).trans c1, (h.cell (World.block_lt_of_cell? wc _ c2)).trans c2, (h.cell (World.block_lt_of_cell? wc _ c3)).trans c3, (h.cell (World.block_lt_of_cell? wc _ c4)).trans c4, h⟩)
  go_cut [6] (fun v6 wd => ∃ g r1 r2 : Nat, v6 = .pointer (some ⟨g, 0, none⟩) ∧ Aside0 (wd.heap[g]? = some (.cells #[.float .f32 r1, .float .f32 r2] 26 (0, 0))) ∧ Aside0 (Res .f32 (floatBits .sub .f32 x1 y1) r1) ∧ Aside0 (Res .f32 (floatBits .sub .f32 x2 y2) r2) ∧ Aside0 (wc.heap.size ≤ g) ∧ Aside0 (Below wc.heap.size wc wd))
  case first =>
    go_region_held3 (fun w' => w'.cell? ⟨g1, 0, none⟩ = some (.float .f32 x1) ∧ w'.cell? ⟨g1, 1, none⟩ = some (.float .f32 x2) ∧ w'.cell? ⟨g2, 0, none⟩ = some (.float .f32 y1) ∧ w'.cell? ⟨g2, 1, none⟩ = some (.float .f32 y2) ∧ Below wc.heap.size wc w') ((refine KS.out _ ?_; (repeat (first | (with_reducible first | assumption | exact Below.refl _ _ | apply below_drew1 | apply below_alloc | apply pw_below_drewN | (refine below_step ?_ (by assumption)) | (refine below_set ?_ (below_size ?_)))))))
      ((first | (go_at_call 13; refine (toSample.calls _ _ _).mono ?_; rintro e w' ⟨rfl, hb⟩; (first | (have q_ := blk_below (alloc_at (w := wc.drew) (n := wc.heap.size) rfl _) hb; have e0 := (blk_cell q_ 0).trans (show _ = some (Value.float .f32 0) from rfl); have e1 := (blk_cell q_ 1).trans (show _ = some (Value.float .f32 0) from rfl); have f0 := blk_frozen q_ 0; have f1 := blk_frozen q_ 1) | (have q_ := blk_below (alloc_at rfl _) hb; have e0 := (blk_cell q_ 0).trans (show _ = some (Value.float .f32 0) from rfl); have e1 := (blk_cell q_ 1).trans (show _ = some (Value.float .f32 0) from rfl); have f0 := blk_frozen q_ 0; have f1 := blk_frozen q_ 1) | (have q_ := blk_below (by assumption) hb; have e0 := (blk_cell q_ 0).trans (show _ = some (Value.float .f32 0) from rfl); have e1 := (blk_cell q_ 1).trans (show _ = some (Value.float .f32 0) from rfl); have f0 := blk_frozen q_ 0; have f1 := blk_frozen q_ 1) | skip)) | (go_at_call 22; refine (impl_SubSample.calls _ _ _ _ _).mono ?_; rintro e w' ⟨r1, r2, rfl, h1, h2, hb⟩; have A1 := Aside0.mk (show Res .f32 (floatBits .sub .f32 x1 y1) r1 from h1); have A2 := Aside0.mk (show Res .f32 (floatBits .sub .f32 x2 y2) r2 from h2); (first | (have q_ := blk_below (alloc_at (w := wc.drew) (n := wc.heap.size) rfl _) hb; have e0 := (blk_cell q_ 0).trans (show _ = some (Value.float .f32 0) from rfl); have e1 := (blk_cell q_ 1).trans (show _ = some (Value.float .f32 0) from rfl); have f0 := blk_frozen q_ 0; have f1 := blk_frozen q_ 1) | (have q_ := blk_below (alloc_at rfl _) hb; have e0 := (blk_cell q_ 0).trans (show _ = some (Value.float .f32 0) from rfl); have e1 := (blk_cell q_ 1).trans (show _ = some (Value.float .f32 0) from rfl); have f0 := blk_frozen q_ 0; have f1 := blk_frozen q_ 1) | (have q_ := blk_below (by assumption) hb; have e0 := (blk_cell q_ 0).trans (show _ = some (Value.float .f32 0) from rfl); have e1 := (blk_cell q_ 1).trans (show _ = some (Value.float .f32 0) from rfl); have f0 := blk_frozen q_ 0; have f1 := blk_frozen q_ 1) | skip))))
    all_goals (go_wp2_with fail; go_meet; (case rel => exact ⟨_, r1, r2, rfl, ⟨by first | exact alloc_at rfl _ | exact blk2 (alloc_at rfl _) | exact blk2 (by assumption) | exact blk2 (blk_drewN (by assumption) _)⟩, A1, A2, ⟨by first | exact (below_size (by repeat (first | (with_reducible first | assumption | exact Below.refl _ _ | apply below_drew1 | apply below_alloc | apply pw_below_drewN | (refine below_step ?_ (by assumption)) | (refine below_set ?_ (below_size ?_)))))) | exact Nat.le_refl _⟩, ⟨by repeat (first | (with_reducible first | assumption | exact Below.refl _ _ | apply below_drew1 | apply below_alloc | apply pw_below_drewN | (refine below_step ?_ (by assumption)) | (refine below_set ?_ (below_size ?_))))⟩⟩))
  case rest =>
  obtain ⟨g3, t1, t2, rfl, K3, T1, T2, HG3, HB1⟩ := hcut
  have K4 := Aside0.mk (blk_below K0.out HB1.out)
  have HB2 := Aside0.mk (below_step HB.out HB1.out)
  have al1 : Fl.Alike .f32 t1 s1 := (Res.alike (Fl.Alike.refl _ _) (Fl.Alike.refl _ _) T1.out S1.out)
  have al2 : Fl.Alike .f32 t2 s2 := (Res.alike (Fl.Alike.refl _ _) (Fl.Alike.refl _ _) T2.out S2.out)
  have AL1 := Aside0.mk al1
  have AL2 := Aside0.mk al2
  clear al1 al2 S1 S2 T1 T2 KS
  have dg00 := (blk_cell K4.out 0).trans (show _ = some (Value.float .f32 s1) from rfl)
  have dg01 := (blk_cell K4.out 1).trans (show _ = some (Value.float .f32 s2) from rfl)
  have dg30 := (blk_cell K3.out 0).trans (show _ = some (Value.float .f32 t1) from rfl)
  have dg31 := (blk_cell K3.out 1).trans (show _ = some (Value.float .f32 t2) from rfl)
  go_wp2_with (first | (go_at_call 17; (with_reducible refine (eqSample.calls t1 t2 s1 s2 AL1.out AL2.out _).mono ?_); rintro e w5 ⟨rfl, hb5⟩; have HB5 := Aside0.mk hb5; clear hb5))
  go_ret
  exact ⟨rfl, by repeat (first | (with_reducible first | exact HB2.out | (refine below_step ?_ HB5.out) | apply below_drew1 | apply pw_below_drewN))⟩
end Go.Proofs.Ytplhdplebbhakaa.PFnExactSubSample
