/- Short forms of what a printed walk says often: each a theorem whose proof is looked for where it is used. No condition. -/
import Derived.Test.YtbgdmbjipladoaaVFnExactPlayWWords
import Derived.Test.YtbgdmbjipladoaaVFnExactPlayWLast
import Derived.Test.YtbgdmbjipladoaaVFnExactPlayWMore
namespace Go.Proofs.Ytbgdmbjipladoaa.Short
open Go.RowKit Go.Proofs.YtbgdmbjipladoaaW.PrintWords Go.Proofs.YtbgdmbjipladoaaW.PrintLast Go.Proofs.YtbgdmbjipladoaaW.PrintMore
theorem belowNow {B : Nat} {w W : World} (h : Below B w W := by repeat (first | (with_reducible first | exact HB.out | apply below_alloc | apply pw_below_drewN | apply below_drew1 | refine below_set ?_ (Aside0.out (by assumption))) | exact HB.out)) : Below B w W := h
theorem blkNow {W : World} {g : Nat} {o : Obj} (h : W.heap[g]? = some o := by (with_reducible repeat (first | refine blk_drewN ?_ _ | refine blk_drew ?_ | refine blk_alloc ?_ _)); exact Aside0.out (by assumption)) : W.heap[g]? = some o := h
theorem blkStep {W W' : World} {g : Nat} {o : Obj} (hb : Below W.heap.size W W') (h : W.heap[g]? = some o := by (with_reducible repeat (first | refine blk_drewN ?_ _ | refine blk_drew ?_ | refine blk_alloc ?_ _)); exact Aside0.out (by assumption)) : W'.heap[g]? = some o := blk_below h hb
theorem blkLt {W : World} {g : Nat} {o : Obj} (h : W.heap[g]? = some o := by (with_reducible repeat (first | refine blk_drewN ?_ _ | refine blk_drew ?_ | refine blk_alloc ?_ _)); exact Aside0.out (by assumption)) : g < W.heap.size := blk_lt h
theorem blkFars {W : World} {g : Nat} {o : Obj} (h : W.heap[g]? = some o := by (with_reducible repeat (first | refine blk_drewN ?_ _ | refine blk_drew ?_ | refine blk_alloc ?_ _ | refine blk_far ?_ (Aside0.out (by assumption)) _)); exact Aside0.out (by assumption)) : W.heap[g]? = some o := h
theorem belowAll {p : Prop} (h : p := by repeat (first | (with_reducible first | exact HB.out | apply below_alloc | apply pw_below_drewN | apply below_drew1 | refine below_set ?_ (IsS98.ge HI0.out) | refine below_set ?_ (Aside0.out (by assumption))) | exact HB.out)) : p := h
theorem kA_ {w W W' : World} {g : Nat} {row : Option Nat} (h : KeepBut w W g row) (h' : KeepBut w W g row → KeepBut w W' g row := by intro h_; repeat (first | (with_reducible first | exact h_ | apply KeepBut.set_ | apply keep_drewN | apply keep_drew | apply keep_alloc | refine keep_far ?_ (Aside0.out (by assumption)) _) | exact h_)) : KeepBut w W' g row := h' h
theorem isAll {p : Prop} (h : p := by repeat (first | (with_reducible first | exact HI0.out | apply IsS98.alloc | apply IsS98.drewN | apply IsS98.drew | apply IsS98.set_1 | apply IsS98.set_2 | refine IsS98.far ?_ (Aside0.out (by assumption)) _) | exact HI0.out)) : p := h
theorem pS_ {p q : Prop} (h : p) (h' : p → q := by intro h_; (with_reducible repeat (first | apply Kd.S_alloc | apply Kd.S_drewN | apply Kd.S_drew)); exact h_) : q := h' h
theorem pR_ {p q : Prop} (h : p) (h' : p → q := by intro h_; (with_reducible repeat (first | apply Kd.R_alloc | apply Kd.R_drewN | apply Kd.R_drew)); exact h_) : q := h' h
theorem pN_ {p q : Prop} (h : p) (h' : p → q := by intro h_; (with_reducible repeat (first | apply Kd.N_alloc | apply Kd.N_drewN | apply Kd.N_drew)); exact h_) : q := h' h
theorem pV_ {p q : Prop} (h : p) (h' : p → q := by intro h_; (with_reducible repeat (first | apply Kd.V_alloc | apply Kd.V_drewN | apply Kd.V_drew)); exact h_) : q := h' h
theorem pB_ {p q : Prop} (h : p) (h' : p → q := by intro h_; (with_reducible repeat (first | refine blk_drewN ?_ _ | refine blk_drew ?_ | refine blk_alloc ?_ _)); exact h_) : q := h' h
theorem am_ {p : Prop} (h : p) : Aside0 p := ⟨h⟩
end Go.Proofs.Ytbgdmbjipladoaa.Short
