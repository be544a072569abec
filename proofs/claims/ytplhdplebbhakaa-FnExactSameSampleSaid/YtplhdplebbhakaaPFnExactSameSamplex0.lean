/- FnExactSameSample: the walk of the law itself. No condition. -/
import Derived.Test.YtplhdplebbhakaaSmp
import Derived.Deep.RegionHeld3
import Derived.Deep.CutRange
import Derived.Deep.DeepCutAuto
set_option linter.unusedVariables false
set_option linter.unusedSimpArgs false
namespace Go.Proofs.Ytplhdplebbhakaa.PFnExactSameSample
open Go.RowKit Go.Proofs.YtplhdplebbhakaaW.PrintWords Go.Proofs.YtplhdplebbhakaaW.PrintLast Go.Proofs.YtplhdplebbhakaaW.PrintMore Go.Proofs.Ytplhdplebbhakaa.Fl Go.Proofs.Ytplhdplebbhakaa.Smp
theorem alloc_size (w : World) (o : Obj) : (w.alloc o).heap.size = w.heap.size + 1 := by show (w.heap.push o).size = _; simp
theorem alloc_at {w : World} {n : Nat} (h : w.heap.size = n) (o : Obj) : (w.alloc o).heap[n]? = some o := by subst h; exact blk_new w o
theorem blk2 {w : World} {g : Nat} {t : TypeId} {a b u v : Value} (h : w.heap[g]? = some (.cells #[a, b] t (0, 0))) : ((w.setCell ⟨g, 0, none⟩ u).setCell ⟨g, 1, none⟩ v).heap[g]? = some (.cells #[u, v] t (0, 0)) := blk_put (blk_put h 0 u rfl) 1 v rfl
def laws_FnExactSameSample.f (x1 x2 y1 y2 : Nat) : Option Bool := some true
set_option maxHeartbeats 8000000 in
set_option maxRecDepth 100000 in
theorem laws_FnExactSameSample.calls (x1 x2 y1 y2 : Nat) (r : Bool) (w : World) (h : laws_FnExactSameSample.f x1 x2 y1 y2 = some r) :
    Calls Try.prog 3 #[.agg #[.float .f32 x1, .float .f32 x2], .agg #[.float .f32 y1, .float .f32 y2]] w fun e w' => e = .returned (.bool r) ∧ Below w.heap.size w w' := by
  obtain rfl := Option.some.inj h
  have hu22 := Try.underlying22
  have hu24 := Try.underlying24
  have hu26 := Try.underlying26
  have hu30 := Try.underlying30
  have hu32 := Try.underlying32
  have hu34 := Try.underlying34
  go_enter Try.func3, Try.ntmps3
  go_upto_region 0 with fail
  go_cut [2, 3] (fun v2 v3 wc => ∃ g1 g2 : Nat, v2 = .pointer (some ⟨g1, 0, none⟩) ∧ v3 = .pointer (some ⟨g2, 0, none⟩) ∧ Aside0 (wc.heap[g1]? = some (.cells #[.float .f32 x1, .float .f32 x2] 24 (0, 0))) ∧ Aside0 (wc.heap[g2]? = some (.cells #[.float .f32 y1, .float .f32 y2] 24 (0, 0))) ∧ Aside0 (Below w.heap.size w wc))
  case first =>
    go_wp2
    go_meet
    case rel => exact ⟨_, _, rfl, rfl, ⟨blk_alloc (alloc_at rfl _) _⟩, ⟨alloc_at (by rw [alloc_size]) _⟩, ⟨by repeat (first | exact Below.refl _ _ | apply below_alloc)⟩⟩
  case rest =>
  obtain ⟨g1, g2, rfl, rfl, K1, K2, HB⟩ := hcut
  go_upto_region 1 with fail
  obtain ⟨B0, hB00⟩ : ∃ q, q = (FloatKind.f32.format.order x1 y1 == some .eq && FloatKind.f32.format.order x2 y2 == some .eq) := ⟨_, rfl⟩
  have hB0 := Aside0.mk hB00
  clear hB00
  have c1 : wc.cell? ⟨g1, 0, none⟩ = some (.float .f32 x1) := (blk_cell K1.out 0).trans rfl
  have c2 : wc.cell? ⟨g1, 1, none⟩ = some (.float .f32 x2) := (blk_cell K1.out 1).trans rfl
  have c3 : wc.cell? ⟨g2, 0, none⟩ = some (.float .f32 y1) := (blk_cell K2.out 0).trans rfl
  have c4 : wc.cell? ⟨g2, 1, none⟩ = some (.float .f32 y2) := (blk_cell K2.out 1).trans rfl
  have KS := Aside0.mk (show ∀ w', Below wc.heap.size wc w' → (w'.cell? ⟨g1, 0, none⟩ = some (.float .f32 x1) ∧ w'.cell? ⟨g1, 1, none⟩ = some (.float .f32 x2) ∧ w'.cell? ⟨g2, 0, none⟩ = some (.float .f32 y1) ∧ w'.cell? ⟨g2, 1, none⟩ = some (.float .f32 y2) ∧ Below wc.heap.size wc w') from fun w' h => ⟨(h.cell (World.block_lt_of_cell? wc _ c1)).trans c1, (h.cell (World.block_lt_of_cell? wc _ c2)).trans c2, (h.cell (World.block_lt_of_cell? wc _ c3)).trans c3, (h.cell (World.block_lt_of_cell? wc _ c4)).trans c4, h⟩)
  go_cut [5] (fun v5 wd => v5 = .bool B0 ∧ Aside0 (Below wc.heap.size wc wd))
  case first =>
    go_region_held3 (fun w' => w'.cell? ⟨g1, 0, none⟩ = some (.float .f32 x1) ∧ w'.cell? ⟨g1, 1, none⟩ = some (.float .f32 x2) ∧ w'.cell? ⟨g2, 0, none⟩ = some (.float .f32 y1) ∧ w'.cell? ⟨g2, 1, none⟩ = some (.float .f32 y2) ∧ Below wc.heap.size wc w') ((refine KS.out _ ?_; (repeat (first | (with_reducible first | assumption | exact Below.refl _ _ | apply below_drew1 | apply below_alloc | apply pw_below_drewN | (refine below_step ?_ (by assumption)) | (refine below_set ?_ (below_size ?_)))))))
      ((first | (go_at_call 13; refine (toSample.calls _ _ _).mono ?_; rintro e w' ⟨rfl, hb⟩) | (go_at_call 12; refine (spec_SameSample.calls _ _ _ _ _).mono ?_; rintro e w' ⟨rfl, hb⟩)))
    all_goals (go_wp2_with fail; go_meet; (case rel => exact ⟨by rw [hB0.out], ⟨by repeat (first | (with_reducible first | assumption | exact Below.refl _ _ | apply below_drew1 | apply below_alloc | apply pw_below_drewN | (refine below_step ?_ (by assumption))))⟩⟩))
  case rest =>
  obtain ⟨rfl, HB1⟩ := hcut
  clear KS c1 c2 c3 c4
  have n1 := Aside0.mk (blk_below K1.out HB1.out)
  have n2 := Aside0.mk (blk_below K2.out HB1.out)
  have HBn := Aside0.mk (below_step HB.out HB1.out)
  have K1 := n1
  have K2 := n2
  have HB := HBn
  clear HBn HB1 n1 n2
  go_upto_region 2 with fail
  have c1 : wc.cell? ⟨g1, 0, none⟩ = some (.float .f32 x1) := (blk_cell K1.out 0).trans rfl
  have c2 : wc.cell? ⟨g1, 1, none⟩ = some (.float .f32 x2) := (blk_cell K1.out 1).trans rfl
  have c3 : wc.cell? ⟨g2, 0, none⟩ = some (.float .f32 y1) := (blk_cell K2.out 0).trans rfl
  have c4 : wc.cell? ⟨g2, 1, none⟩ = some (.float .f32 y2) := (blk_cell K2.out 1).trans rfl
  have KS := Aside0.mk (show ∀ w', Below wc.heap.size wc w' → (w'.cell? ⟨g1, 0, none⟩ = some (.float .f32 x1) ∧ w'.cell? ⟨g1, 1, none⟩ = some (.float .f32 x2) ∧ w'.cell? ⟨g2, 0, none⟩ = some (.float .f32 y1) ∧ w'.cell? ⟨g2, 1, none⟩ = some (.float .f32 y2) ∧ Below wc.heap.size wc w') from fun w' h => ⟨(h.cell (World.block_lt_of_cell? wc _ c1)).trans c1, (h.cell (World.block_lt_of_cell? wc _ c2)).trans c2, (h.cell (World.block_lt_of_cell? wc _ c3)).trans c3, (h.cell (World.block_lt_of_cell? wc _ c4)).trans c4, h⟩)
  go_cut [6] (fun v6 wd => v6 = .bool B0 ∧ Aside0 (Below wc.heap.size wc wd))
  case first =>
    go_region_held3 (fun w' => w'.cell? ⟨g1, 0, none⟩ = some (.float .f32 x1) ∧ w'.cell? ⟨g1, 1, none⟩ = some (.float .f32 x2) ∧ w'.cell? ⟨g2, 0, none⟩ = some (.float .f32 y1) ∧ w'.cell? ⟨g2, 1, none⟩ = some (.float .f32 y2) ∧ Below wc.heap.size wc w') ((refine KS.out _ ?_; (repeat (first | (with_reducible first | assumption | exact Below.refl _ _ | apply below_drew1 | apply below_alloc | apply pw_below_drewN | (refine below_step ?_ (by assumption)) | (refine below_set ?_ (below_size ?_)))))))
      ((first | (go_at_call 13; refine (toSample.calls _ _ _).mono ?_; rintro e w' ⟨rfl, hb⟩) | (go_at_call 14; refine (impl_SameSample.calls _ _ _ _ _).mono ?_; rintro e w' ⟨rfl, hb⟩)))
    all_goals (go_wp2_with fail; go_meet; (case rel => exact ⟨by rw [hB0.out], ⟨by repeat (first | (with_reducible first | assumption | exact Below.refl _ _ | apply below_drew1 | apply below_alloc | apply pw_below_drewN | (refine below_step ?_ (by assumption))))⟩⟩))
  case rest =>
  obtain ⟨rfl, HB1⟩ := hcut
  have HB2 := Aside0.mk (below_step HB.out HB1.out)
  clear KS
  cases B0 <;> (go_wp2_with fail; go_ret; exact ⟨rfl, by repeat (first | (with_reducible first | exact HB2.out | apply below_drew1 | apply pw_below_drewN))⟩)
end Go.Proofs.Ytplhdplebbhakaa.PFnExactSameSample
