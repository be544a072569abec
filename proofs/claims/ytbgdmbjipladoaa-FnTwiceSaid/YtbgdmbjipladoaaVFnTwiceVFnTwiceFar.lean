/- Several cells of one variable are written: what is told of other blocks stands. No condition. -/
import Derived.Test.YtbgdmbjipladoaaVFnTwiceVFnTwiceWWords
import Derived.Test.YtbgdmbjipladoaaVFnTwiceVFnTwiceWLast
import Derived.Test.YtbgdmbjipladoaaVFnTwiceVFnTwiceWMore
set_option linter.unusedVariables false
namespace Go.Proofs.Ytbgdmbjipladoaa.Far
open Go.RowKit Go.Proofs.YtbgdmbjipladoaaW.PrintWords Go.Proofs.YtbgdmbjipladoaaW.PrintLast Go.Proofs.YtbgdmbjipladoaaW.PrintMore
section
variable {W : World} {a : Addr} {g i0 i1 i2 i3 i4 i5 i6 i7 : Nat} {u0 u1 u2 u3 u4 u5 u6 u7 : Value} {o : Option Value}
theorem far2_ (h : a.block ≠ g) (e : W.cell? a = o) : ((W.setCell ⟨g, i0, none⟩ u0).setCell ⟨g, i1, none⟩ u1).cell? a = o := ((cell_far (p := ⟨g, i1, none⟩) h _).trans ((cell_far (p := ⟨g, i0, none⟩) h _).trans e))
theorem far3_ (h : a.block ≠ g) (e : W.cell? a = o) : (((W.setCell ⟨g, i0, none⟩ u0).setCell ⟨g, i1, none⟩ u1).setCell ⟨g, i2, none⟩ u2).cell? a = o := ((cell_far (p := ⟨g, i2, none⟩) h _).trans ((cell_far (p := ⟨g, i1, none⟩) h _).trans ((cell_far (p := ⟨g, i0, none⟩) h _).trans e)))
theorem far4_ (h : a.block ≠ g) (e : W.cell? a = o) : ((((W.setCell ⟨g, i0, none⟩ u0).setCell ⟨g, i1, none⟩ u1).setCell ⟨g, i2, none⟩ u2).setCell ⟨g, i3, none⟩ u3).cell? a = o := ((cell_far (p := ⟨g, i3, none⟩) h _).trans ((cell_far (p := ⟨g, i2, none⟩) h _).trans ((cell_far (p := ⟨g, i1, none⟩) h _).trans ((cell_far (p := ⟨g, i0, none⟩) h _).trans e))))
theorem far5_ (h : a.block ≠ g) (e : W.cell? a = o) : (((((W.setCell ⟨g, i0, none⟩ u0).setCell ⟨g, i1, none⟩ u1).setCell ⟨g, i2, none⟩ u2).setCell ⟨g, i3, none⟩ u3).setCell ⟨g, i4, none⟩ u4).cell? a = o := ((cell_far (p := ⟨g, i4, none⟩) h _).trans ((cell_far (p := ⟨g, i3, none⟩) h _).trans ((cell_far (p := ⟨g, i2, none⟩) h _).trans ((cell_far (p := ⟨g, i1, none⟩) h _).trans ((cell_far (p := ⟨g, i0, none⟩) h _).trans e)))))
theorem far6_ (h : a.block ≠ g) (e : W.cell? a = o) : ((((((W.setCell ⟨g, i0, none⟩ u0).setCell ⟨g, i1, none⟩ u1).setCell ⟨g, i2, none⟩ u2).setCell ⟨g, i3, none⟩ u3).setCell ⟨g, i4, none⟩ u4).setCell ⟨g, i5, none⟩ u5).cell? a = o := ((cell_far (p := ⟨g, i5, none⟩) h _).trans ((cell_far (p := ⟨g, i4, none⟩) h _).trans ((cell_far (p := ⟨g, i3, none⟩) h _).trans ((cell_far (p := ⟨g, i2, none⟩) h _).trans ((cell_far (p := ⟨g, i1, none⟩) h _).trans ((cell_far (p := ⟨g, i0, none⟩) h _).trans e))))))
theorem far7_ (h : a.block ≠ g) (e : W.cell? a = o) : (((((((W.setCell ⟨g, i0, none⟩ u0).setCell ⟨g, i1, none⟩ u1).setCell ⟨g, i2, none⟩ u2).setCell ⟨g, i3, none⟩ u3).setCell ⟨g, i4, none⟩ u4).setCell ⟨g, i5, none⟩ u5).setCell ⟨g, i6, none⟩ u6).cell? a = o := ((cell_far (p := ⟨g, i6, none⟩) h _).trans ((cell_far (p := ⟨g, i5, none⟩) h _).trans ((cell_far (p := ⟨g, i4, none⟩) h _).trans ((cell_far (p := ⟨g, i3, none⟩) h _).trans ((cell_far (p := ⟨g, i2, none⟩) h _).trans ((cell_far (p := ⟨g, i1, none⟩) h _).trans ((cell_far (p := ⟨g, i0, none⟩) h _).trans e)))))))
theorem far8_ (h : a.block ≠ g) (e : W.cell? a = o) : ((((((((W.setCell ⟨g, i0, none⟩ u0).setCell ⟨g, i1, none⟩ u1).setCell ⟨g, i2, none⟩ u2).setCell ⟨g, i3, none⟩ u3).setCell ⟨g, i4, none⟩ u4).setCell ⟨g, i5, none⟩ u5).setCell ⟨g, i6, none⟩ u6).setCell ⟨g, i7, none⟩ u7).cell? a = o := ((cell_far (p := ⟨g, i7, none⟩) h _).trans ((cell_far (p := ⟨g, i6, none⟩) h _).trans ((cell_far (p := ⟨g, i5, none⟩) h _).trans ((cell_far (p := ⟨g, i4, none⟩) h _).trans ((cell_far (p := ⟨g, i3, none⟩) h _).trans ((cell_far (p := ⟨g, i2, none⟩) h _).trans ((cell_far (p := ⟨g, i1, none⟩) h _).trans ((cell_far (p := ⟨g, i0, none⟩) h _).trans e))))))))
end
section
variable {α : Type} {d : Kd α} {e : Nat} {w : World} {base : Nat} {ok : Nat → Prop} {v : Value} {xs : List α} {g i0 i1 i2 i3 i4 i5 i6 i7 : Nat} {u0 u1 u2 u3 u4 u5 u6 u7 : Value}
theorem rfar2_ (hok : ∀ k, ok k → k ≠ g) (h : d.R e w base ok v xs) : d.R e ((w.setCell ⟨g, i0, none⟩ u0).setCell ⟨g, i1, none⟩ u1) base ok v xs := (Kd.R_far (p := ⟨g, i1, none⟩) (Kd.R_far (p := ⟨g, i0, none⟩) h hok _) hok _)
theorem qfar2_ (hok : ∀ k, ok k → k ≠ g) (h : d.Q e w base ok v xs) : d.Q e ((w.setCell ⟨g, i0, none⟩ u0).setCell ⟨g, i1, none⟩ u1) base ok v xs := (Kd.Q_far (p := ⟨g, i1, none⟩) (Kd.Q_far (p := ⟨g, i0, none⟩) h hok _) hok _)
theorem rfar3_ (hok : ∀ k, ok k → k ≠ g) (h : d.R e w base ok v xs) : d.R e (((w.setCell ⟨g, i0, none⟩ u0).setCell ⟨g, i1, none⟩ u1).setCell ⟨g, i2, none⟩ u2) base ok v xs := (Kd.R_far (p := ⟨g, i2, none⟩) (Kd.R_far (p := ⟨g, i1, none⟩) (Kd.R_far (p := ⟨g, i0, none⟩) h hok _) hok _) hok _)
theorem qfar3_ (hok : ∀ k, ok k → k ≠ g) (h : d.Q e w base ok v xs) : d.Q e (((w.setCell ⟨g, i0, none⟩ u0).setCell ⟨g, i1, none⟩ u1).setCell ⟨g, i2, none⟩ u2) base ok v xs := (Kd.Q_far (p := ⟨g, i2, none⟩) (Kd.Q_far (p := ⟨g, i1, none⟩) (Kd.Q_far (p := ⟨g, i0, none⟩) h hok _) hok _) hok _)
theorem rfar4_ (hok : ∀ k, ok k → k ≠ g) (h : d.R e w base ok v xs) : d.R e ((((w.setCell ⟨g, i0, none⟩ u0).setCell ⟨g, i1, none⟩ u1).setCell ⟨g, i2, none⟩ u2).setCell ⟨g, i3, none⟩ u3) base ok v xs := (Kd.R_far (p := ⟨g, i3, none⟩) (Kd.R_far (p := ⟨g, i2, none⟩) (Kd.R_far (p := ⟨g, i1, none⟩) (Kd.R_far (p := ⟨g, i0, none⟩) h hok _) hok _) hok _) hok _)
theorem qfar4_ (hok : ∀ k, ok k → k ≠ g) (h : d.Q e w base ok v xs) : d.Q e ((((w.setCell ⟨g, i0, none⟩ u0).setCell ⟨g, i1, none⟩ u1).setCell ⟨g, i2, none⟩ u2).setCell ⟨g, i3, none⟩ u3) base ok v xs := (Kd.Q_far (p := ⟨g, i3, none⟩) (Kd.Q_far (p := ⟨g, i2, none⟩) (Kd.Q_far (p := ⟨g, i1, none⟩) (Kd.Q_far (p := ⟨g, i0, none⟩) h hok _) hok _) hok _) hok _)
theorem rfar5_ (hok : ∀ k, ok k → k ≠ g) (h : d.R e w base ok v xs) : d.R e (((((w.setCell ⟨g, i0, none⟩ u0).setCell ⟨g, i1, none⟩ u1).setCell ⟨g, i2, none⟩ u2).setCell ⟨g, i3, none⟩ u3).setCell ⟨g, i4, none⟩ u4) base ok v xs := (Kd.R_far (p := ⟨g, i4, none⟩) (Kd.R_far (p := ⟨g, i3, none⟩) (Kd.R_far (p := ⟨g, i2, none⟩) (Kd.R_far (p := ⟨g, i1, none⟩) (Kd.R_far (p := ⟨g, i0, none⟩) h hok _) hok _) hok _) hok _) hok _)
theorem qfar5_ (hok : ∀ k, ok k → k ≠ g) (h : d.Q e w base ok v xs) : d.Q e (((((w.setCell ⟨g, i0, none⟩ u0).setCell ⟨g, i1, none⟩ u1).setCell ⟨g, i2, none⟩ u2).setCell ⟨g, i3, none⟩ u3).setCell ⟨g, i4, none⟩ u4) base ok v xs := (Kd.Q_far (p := ⟨g, i4, none⟩) (Kd.Q_far (p := ⟨g, i3, none⟩) (Kd.Q_far (p := ⟨g, i2, none⟩) (Kd.Q_far (p := ⟨g, i1, none⟩) (Kd.Q_far (p := ⟨g, i0, none⟩) h hok _) hok _) hok _) hok _) hok _)
theorem rfar6_ (hok : ∀ k, ok k → k ≠ g) (h : d.R e w base ok v xs) : d.R e ((((((w.setCell ⟨g, i0, none⟩ u0).setCell ⟨g, i1, none⟩ u1).setCell ⟨g, i2, none⟩ u2).setCell ⟨g, i3, none⟩ u3).setCell ⟨g, i4, none⟩ u4).setCell ⟨g, i5, none⟩ u5) base ok v xs := (Kd.R_far (p := ⟨g, i5, none⟩) (Kd.R_far (p := ⟨g, i4, none⟩) (Kd.R_far (p := ⟨g, i3, none⟩) (Kd.R_far (p := ⟨g, i2, none⟩) (Kd.R_far (p := ⟨g, i1, none⟩) (Kd.R_far (p := ⟨g, i0, none⟩) h hok _) hok _) hok _) hok _) hok _) hok _)
theorem qfar6_ (hok : ∀ k, ok k → k ≠ g) (h : d.Q e w base ok v xs) : d.Q e ((((((w.setCell ⟨g, i0, none⟩ u0).setCell ⟨g, i1, none⟩ u1).setCell ⟨g, i2, none⟩ u2).setCell ⟨g, i3, none⟩ u3).setCell ⟨g, i4, none⟩ u4).setCell ⟨g, i5, none⟩ u5) base ok v xs := (Kd.Q_far (p := ⟨g, i5, none⟩) (Kd.Q_far (p := ⟨g, i4, none⟩) (Kd.Q_far (p := ⟨g, i3, none⟩) (Kd.Q_far (p := ⟨g, i2, none⟩) (Kd.Q_far (p := ⟨g, i1, none⟩) (Kd.Q_far (p := ⟨g, i0, none⟩) h hok _) hok _) hok _) hok _) hok _) hok _)
theorem rfar7_ (hok : ∀ k, ok k → k ≠ g) (h : d.R e w base ok v xs) : d.R e (((((((w.setCell ⟨g, i0, none⟩ u0).setCell ⟨g, i1, none⟩ u1).setCell ⟨g, i2, none⟩ u2).setCell ⟨g, i3, none⟩ u3).setCell ⟨g, i4, none⟩ u4).setCell ⟨g, i5, none⟩ u5).setCell ⟨g, i6, none⟩ u6) base ok v xs := (Kd.R_far (p := ⟨g, i6, none⟩) (Kd.R_far (p := ⟨g, i5, none⟩) (Kd.R_far (p := ⟨g, i4, none⟩) (Kd.R_far (p := ⟨g, i3, none⟩) (Kd.R_far (p := ⟨g, i2, none⟩) (Kd.R_far (p := ⟨g, i1, none⟩) (Kd.R_far (p := ⟨g, i0, none⟩) h hok _) hok _) hok _) hok _) hok _) hok _) hok _)
theorem qfar7_ (hok : ∀ k, ok k → k ≠ g) (h : d.Q e w base ok v xs) : d.Q e (((((((w.setCell ⟨g, i0, none⟩ u0).setCell ⟨g, i1, none⟩ u1).setCell ⟨g, i2, none⟩ u2).setCell ⟨g, i3, none⟩ u3).setCell ⟨g, i4, none⟩ u4).setCell ⟨g, i5, none⟩ u5).setCell ⟨g, i6, none⟩ u6) base ok v xs := (Kd.Q_far (p := ⟨g, i6, none⟩) (Kd.Q_far (p := ⟨g, i5, none⟩) (Kd.Q_far (p := ⟨g, i4, none⟩) (Kd.Q_far (p := ⟨g, i3, none⟩) (Kd.Q_far (p := ⟨g, i2, none⟩) (Kd.Q_far (p := ⟨g, i1, none⟩) (Kd.Q_far (p := ⟨g, i0, none⟩) h hok _) hok _) hok _) hok _) hok _) hok _) hok _)
theorem rfar8_ (hok : ∀ k, ok k → k ≠ g) (h : d.R e w base ok v xs) : d.R e ((((((((w.setCell ⟨g, i0, none⟩ u0).setCell ⟨g, i1, none⟩ u1).setCell ⟨g, i2, none⟩ u2).setCell ⟨g, i3, none⟩ u3).setCell ⟨g, i4, none⟩ u4).setCell ⟨g, i5, none⟩ u5).setCell ⟨g, i6, none⟩ u6).setCell ⟨g, i7, none⟩ u7) base ok v xs := (Kd.R_far (p := ⟨g, i7, none⟩) (Kd.R_far (p := ⟨g, i6, none⟩) (Kd.R_far (p := ⟨g, i5, none⟩) (Kd.R_far (p := ⟨g, i4, none⟩) (Kd.R_far (p := ⟨g, i3, none⟩) (Kd.R_far (p := ⟨g, i2, none⟩) (Kd.R_far (p := ⟨g, i1, none⟩) (Kd.R_far (p := ⟨g, i0, none⟩) h hok _) hok _) hok _) hok _) hok _) hok _) hok _) hok _)
theorem qfar8_ (hok : ∀ k, ok k → k ≠ g) (h : d.Q e w base ok v xs) : d.Q e ((((((((w.setCell ⟨g, i0, none⟩ u0).setCell ⟨g, i1, none⟩ u1).setCell ⟨g, i2, none⟩ u2).setCell ⟨g, i3, none⟩ u3).setCell ⟨g, i4, none⟩ u4).setCell ⟨g, i5, none⟩ u5).setCell ⟨g, i6, none⟩ u6).setCell ⟨g, i7, none⟩ u7) base ok v xs := (Kd.Q_far (p := ⟨g, i7, none⟩) (Kd.Q_far (p := ⟨g, i6, none⟩) (Kd.Q_far (p := ⟨g, i5, none⟩) (Kd.Q_far (p := ⟨g, i4, none⟩) (Kd.Q_far (p := ⟨g, i3, none⟩) (Kd.Q_far (p := ⟨g, i2, none⟩) (Kd.Q_far (p := ⟨g, i1, none⟩) (Kd.Q_far (p := ⟨g, i0, none⟩) h hok _) hok _) hok _) hok _) hok _) hok _) hok _) hok _)
end
section
variable {w : World} {g : Nat} {t : TypeId} {u0 u1 u2 u3 u4 u5 u6 u7 : Value}
theorem put2_ (cs : Array Value) (hs : cs.size = 2) (h : w.heap[g]? = some (.cells cs t (0, 0))) : ((w.setCell ⟨g, 0, none⟩ u0).setCell ⟨g, 1, none⟩ u1).heap[g]? = some (.cells #[u0, u1] t (0, 0)) := by
  obtain ⟨l⟩ := cs
  match l, hs with
  | [a0, a1], _ => exact (blk_put (blk_put h 0 _ (cs' := #[u0, a1]) rfl) 1 _ (cs' := #[u0, u1]) rfl)
theorem put3_ (cs : Array Value) (hs : cs.size = 3) (h : w.heap[g]? = some (.cells cs t (0, 0))) : (((w.setCell ⟨g, 0, none⟩ u0).setCell ⟨g, 1, none⟩ u1).setCell ⟨g, 2, none⟩ u2).heap[g]? = some (.cells #[u0, u1, u2] t (0, 0)) := by
  obtain ⟨l⟩ := cs
  match l, hs with
  | [a0, a1, a2], _ => exact (blk_put (blk_put (blk_put h 0 _ (cs' := #[u0, a1, a2]) rfl) 1 _ (cs' := #[u0, u1, a2]) rfl) 2 _ (cs' := #[u0, u1, u2]) rfl)
theorem put4_ (cs : Array Value) (hs : cs.size = 4) (h : w.heap[g]? = some (.cells cs t (0, 0))) : ((((w.setCell ⟨g, 0, none⟩ u0).setCell ⟨g, 1, none⟩ u1).setCell ⟨g, 2, none⟩ u2).setCell ⟨g, 3, none⟩ u3).heap[g]? = some (.cells #[u0, u1, u2, u3] t (0, 0)) := by
  obtain ⟨l⟩ := cs
  match l, hs with
  | [a0, a1, a2, a3], _ => exact (blk_put (blk_put (blk_put (blk_put h 0 _ (cs' := #[u0, a1, a2, a3]) rfl) 1 _ (cs' := #[u0, u1, a2, a3]) rfl) 2 _ (cs' := #[u0, u1, u2, a3]) rfl) 3 _ (cs' := #[u0, u1, u2, u3]) rfl)
theorem put5_ (cs : Array Value) (hs : cs.size = 5) (h : w.heap[g]? = some (.cells cs t (0, 0))) : (((((w.setCell ⟨g, 0, none⟩ u0).setCell ⟨g, 1, none⟩ u1).setCell ⟨g, 2, none⟩ u2).setCell ⟨g, 3, none⟩ u3).setCell ⟨g, 4, none⟩ u4).heap[g]? = some (.cells #[u0, u1, u2, u3, u4] t (0, 0)) := by
  obtain ⟨l⟩ := cs
  match l, hs with
  | [a0, a1, a2, a3, a4], _ => exact (blk_put (blk_put (blk_put (blk_put (blk_put h 0 _ (cs' := #[u0, a1, a2, a3, a4]) rfl) 1 _ (cs' := #[u0, u1, a2, a3, a4]) rfl) 2 _ (cs' := #[u0, u1, u2, a3, a4]) rfl) 3 _ (cs' := #[u0, u1, u2, u3, a4]) rfl) 4 _ (cs' := #[u0, u1, u2, u3, u4]) rfl)
theorem put6_ (cs : Array Value) (hs : cs.size = 6) (h : w.heap[g]? = some (.cells cs t (0, 0))) : ((((((w.setCell ⟨g, 0, none⟩ u0).setCell ⟨g, 1, none⟩ u1).setCell ⟨g, 2, none⟩ u2).setCell ⟨g, 3, none⟩ u3).setCell ⟨g, 4, none⟩ u4).setCell ⟨g, 5, none⟩ u5).heap[g]? = some (.cells #[u0, u1, u2, u3, u4, u5] t (0, 0)) := by
  obtain ⟨l⟩ := cs
  match l, hs with
  | [a0, a1, a2, a3, a4, a5], _ => exact (blk_put (blk_put (blk_put (blk_put (blk_put (blk_put h 0 _ (cs' := #[u0, a1, a2, a3, a4, a5]) rfl) 1 _ (cs' := #[u0, u1, a2, a3, a4, a5]) rfl) 2 _ (cs' := #[u0, u1, u2, a3, a4, a5]) rfl) 3 _ (cs' := #[u0, u1, u2, u3, a4, a5]) rfl) 4 _ (cs' := #[u0, u1, u2, u3, u4, a5]) rfl) 5 _ (cs' := #[u0, u1, u2, u3, u4, u5]) rfl)
theorem put7_ (cs : Array Value) (hs : cs.size = 7) (h : w.heap[g]? = some (.cells cs t (0, 0))) : (((((((w.setCell ⟨g, 0, none⟩ u0).setCell ⟨g, 1, none⟩ u1).setCell ⟨g, 2, none⟩ u2).setCell ⟨g, 3, none⟩ u3).setCell ⟨g, 4, none⟩ u4).setCell ⟨g, 5, none⟩ u5).setCell ⟨g, 6, none⟩ u6).heap[g]? = some (.cells #[u0, u1, u2, u3, u4, u5, u6] t (0, 0)) := by
  obtain ⟨l⟩ := cs
  match l, hs with
  | [a0, a1, a2, a3, a4, a5, a6], _ => exact (blk_put (blk_put (blk_put (blk_put (blk_put (blk_put (blk_put h 0 _ (cs' := #[u0, a1, a2, a3, a4, a5, a6]) rfl) 1 _ (cs' := #[u0, u1, a2, a3, a4, a5, a6]) rfl) 2 _ (cs' := #[u0, u1, u2, a3, a4, a5, a6]) rfl) 3 _ (cs' := #[u0, u1, u2, u3, a4, a5, a6]) rfl) 4 _ (cs' := #[u0, u1, u2, u3, u4, a5, a6]) rfl) 5 _ (cs' := #[u0, u1, u2, u3, u4, u5, a6]) rfl) 6 _ (cs' := #[u0, u1, u2, u3, u4, u5, u6]) rfl)
theorem put8_ (cs : Array Value) (hs : cs.size = 8) (h : w.heap[g]? = some (.cells cs t (0, 0))) : ((((((((w.setCell ⟨g, 0, none⟩ u0).setCell ⟨g, 1, none⟩ u1).setCell ⟨g, 2, none⟩ u2).setCell ⟨g, 3, none⟩ u3).setCell ⟨g, 4, none⟩ u4).setCell ⟨g, 5, none⟩ u5).setCell ⟨g, 6, none⟩ u6).setCell ⟨g, 7, none⟩ u7).heap[g]? = some (.cells #[u0, u1, u2, u3, u4, u5, u6, u7] t (0, 0)) := by
  obtain ⟨l⟩ := cs
  match l, hs with
  | [a0, a1, a2, a3, a4, a5, a6, a7], _ => exact (blk_put (blk_put (blk_put (blk_put (blk_put (blk_put (blk_put (blk_put h 0 _ (cs' := #[u0, a1, a2, a3, a4, a5, a6, a7]) rfl) 1 _ (cs' := #[u0, u1, a2, a3, a4, a5, a6, a7]) rfl) 2 _ (cs' := #[u0, u1, u2, a3, a4, a5, a6, a7]) rfl) 3 _ (cs' := #[u0, u1, u2, u3, a4, a5, a6, a7]) rfl) 4 _ (cs' := #[u0, u1, u2, u3, u4, a5, a6, a7]) rfl) 5 _ (cs' := #[u0, u1, u2, u3, u4, u5, a6, a7]) rfl) 6 _ (cs' := #[u0, u1, u2, u3, u4, u5, u6, a7]) rfl) 7 _ (cs' := #[u0, u1, u2, u3, u4, u5, u6, u7]) rfl)
end
theorem ab_ {p q : Prop} (h : p) (h' : p → q := by intro h_; first | exact h_ | (rw [add_block]; exact h_) | (show (Addr.add _ _).block ≠ _; rw [add_block]; exact h_) | (dsimp only; exact h_) | (simp only [add_block]; exact h_)) : q := h' h
theorem cb_ {W W' : World} {a : Addr} {v : Value} (hb : Below W.heap.size W W') (h : W.cell? a = some v) : W'.cell? a = some v := (hb.cell (World.block_lt_of_cell? _ _ h)).trans h
end Go.Proofs.Ytbgdmbjipladoaa.Far
namespace Go.Proofs.YtbgdmbjipladoaaW.PrintMore
open Go.RowKit Go.Proofs.YtbgdmbjipladoaaW.PrintWords
section
variable {α : Type} {d : Kd α} {e base : Nat} {ok ok1 : Nat → Prop} {W : World} {v : Value} {xs : List α}
theorem Kd.Q_tight (hE : d.E = []) (h : d.Q e W base ok v xs) : d.Q e W base (fun k => some k = v.ownBlock) v xs := by
  obtain ⟨h0, inner, hq, hr⟩ := h
  refine ⟨fun k hk => hk.symm, inner, hq, hr.imp_ (fun _ _ hp => ?_)⟩
  refine d.M_mono (fun k hk => ?_) (d.M_bound hp)
  obtain ⟨_, _, _, q, hq, _⟩ := hk
  rw [hE] at hq
  cases hq
theorem Kd.Q_tight2 (hE : d.E = []) (h : d.Q e W base ok v xs) : d.Q e W base (fun k => some k = v.ownBlock ∧ ok k) v xs := Kd.Q_mono (Kd.Q_tight hE h) (fun k hk => ⟨hk, h.1 k hk.symm⟩)
theorem Kd.Q_reok (hE : d.E = []) (h : d.Q e W base ok1 v xs) (hok : ∀ k, v.ownBlock = some k → ok k) : d.Q e W base ok v xs := Kd.Q_mono (Kd.Q_tight hE h) (fun k hk => hok k hk.symm)
end
end Go.Proofs.YtbgdmbjipladoaaW.PrintMore
