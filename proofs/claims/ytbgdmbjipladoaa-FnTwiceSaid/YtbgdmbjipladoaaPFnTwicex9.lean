-- laid by a program of this session (wip/lay/lay.py); Lean checks it
import Derived.Test.YtbgdmbjipladoaaVFnTwiceVFnTwiceShort
import Derived.Test.YtbgdmbjipladoaaPFnTwicex0
import Derived.Test.YtbgdmbjipladoaaPFnTwicex4
import Derived.Test.YtbgdmbjipladoaaPFnTwicex7
import Derived.Test.YtbgdmbjipladoaaPFnTwicex8
namespace Go.Proofs.Ytbgdmbjipladoaa.PFnTwice
open Go.RowKit Go.Proofs.YtbgdmbjipladoaaW.PrintWords Go.Proofs.YtbgdmbjipladoaaW.PrintLast Go.Proofs.YtbgdmbjipladoaaW.PrintMore Go.Proofs.Ytbgdmbjipladoaa.Short
attribute [local go_sem] max2_int min2_int max_two min_two max_three min_three max_four min_four   -- for this text's walks alone
set_option linter.unusedVariables false
set_option linter.unusedSimpArgs false

/-! ### laws_FnTwice: function 9 -/
def laws_FnTwice.E (x : S44) : List Value := [.int .i64 x.f0, .int .i64 x.f1, .int .u8 x.f2.f0, .int .u8 x.f2.f1, .int .u8 x.f2.f2, .int .u8 x.f2.f3, .int .u8 x.f2.f4, .int .u8 x.f2.f5, .int .u8 x.f2.f6, .int .u8 x.f2.f7, .int .u8 x.f2.f8, .int .u8 x.f2.f9, .int .u8 x.f2.f10, .int .u8 x.f2.f11, .int .u8 x.f2.f12, .int .u8 x.f2.f13, .int .u8 x.f2.f14, .int .u8 x.f2.f15]
def laws_FnTwice.Held (w : World) (ad : Addr) (x : S44) : Prop := ∀ (j : Nat) (v : Value), (laws_FnTwice.E x)[j]? = some v → w.cell? (ad.add j) = some v
theorem laws_FnTwice.at_ {w : World} {A : Option Addr} {n : Nat} {xs : List S44} (h : Kd.C k44 w A n xs) (i : Int) (h0 : 0 ≤ i) (h1 : i < n) : ∃ ad, A = some ad ∧ laws_FnTwice.Held w (ad.add (i.toNat * 18)) (rd_T44 xs i) := by
  obtain ⟨ad, c, e, _, hK, hc0⟩ := Kd.C_get h z44 i h0 h1
  have hc : ∀ j u, c[j]? = some u → w.cell? (ad.add (i.toNat * 18 + j)) = some u := hc0
  obtain rfl := k44_open hK
  exact ⟨ad, e, fun j v hj => by have := hc j v hj; rwa [← add_add] at this⟩
theorem laws_FnTwice.Held_b {w W : World} {ad : Addr} {x : S44} {B : Nat} (hb : Below B w W) (hB : B = w.heap.size) (h : laws_FnTwice.Held w ad x) : laws_FnTwice.Held W ad x := fun j v hj => (hb.cell (hB ▸ World.block_lt_of_cell? _ _ (h j v hj))).trans (h j v hj)
theorem laws_FnTwice.bfar1 {W : World} {g g' i0 : Nat} {u0 : Value} {o : Option Obj} (h : g' ≠ g) (e : W.heap[g']? = o) : (W.setCell ⟨g, i0, none⟩ u0).heap[g']? = o := (Below.heap_setCell _ _ _ _ h).trans (e)
theorem laws_FnTwice.bfar2 {W : World} {g g' i0 i1 : Nat} {u0 u1 : Value} {o : Option Obj} (h : g' ≠ g) (e : W.heap[g']? = o) : ((W.setCell ⟨g, i0, none⟩ u0).setCell ⟨g, i1, none⟩ u1).heap[g']? = o := (Below.heap_setCell _ _ _ _ h).trans ((Below.heap_setCell _ _ _ _ h).trans (e))
theorem laws_FnTwice.bfar3 {W : World} {g g' i0 i1 i2 : Nat} {u0 u1 u2 : Value} {o : Option Obj} (h : g' ≠ g) (e : W.heap[g']? = o) : (((W.setCell ⟨g, i0, none⟩ u0).setCell ⟨g, i1, none⟩ u1).setCell ⟨g, i2, none⟩ u2).heap[g']? = o := (Below.heap_setCell _ _ _ _ h).trans ((Below.heap_setCell _ _ _ _ h).trans ((Below.heap_setCell _ _ _ _ h).trans (e)))
theorem laws_FnTwice.bfar4 {W : World} {g g' i0 i1 i2 i3 : Nat} {u0 u1 u2 u3 : Value} {o : Option Obj} (h : g' ≠ g) (e : W.heap[g']? = o) : ((((W.setCell ⟨g, i0, none⟩ u0).setCell ⟨g, i1, none⟩ u1).setCell ⟨g, i2, none⟩ u2).setCell ⟨g, i3, none⟩ u3).heap[g']? = o := (Below.heap_setCell _ _ _ _ h).trans ((Below.heap_setCell _ _ _ _ h).trans ((Below.heap_setCell _ _ _ _ h).trans ((Below.heap_setCell _ _ _ _ h).trans (e))))
theorem laws_FnTwice.bfar5 {W : World} {g g' i0 i1 i2 i3 i4 : Nat} {u0 u1 u2 u3 u4 : Value} {o : Option Obj} (h : g' ≠ g) (e : W.heap[g']? = o) : (((((W.setCell ⟨g, i0, none⟩ u0).setCell ⟨g, i1, none⟩ u1).setCell ⟨g, i2, none⟩ u2).setCell ⟨g, i3, none⟩ u3).setCell ⟨g, i4, none⟩ u4).heap[g']? = o := (Below.heap_setCell _ _ _ _ h).trans ((Below.heap_setCell _ _ _ _ h).trans ((Below.heap_setCell _ _ _ _ h).trans ((Below.heap_setCell _ _ _ _ h).trans ((Below.heap_setCell _ _ _ _ h).trans (e)))))
theorem laws_FnTwice.bfar6 {W : World} {g g' i0 i1 i2 i3 i4 i5 : Nat} {u0 u1 u2 u3 u4 u5 : Value} {o : Option Obj} (h : g' ≠ g) (e : W.heap[g']? = o) : ((((((W.setCell ⟨g, i0, none⟩ u0).setCell ⟨g, i1, none⟩ u1).setCell ⟨g, i2, none⟩ u2).setCell ⟨g, i3, none⟩ u3).setCell ⟨g, i4, none⟩ u4).setCell ⟨g, i5, none⟩ u5).heap[g']? = o := (Below.heap_setCell _ _ _ _ h).trans ((Below.heap_setCell _ _ _ _ h).trans ((Below.heap_setCell _ _ _ _ h).trans ((Below.heap_setCell _ _ _ _ h).trans ((Below.heap_setCell _ _ _ _ h).trans ((Below.heap_setCell _ _ _ _ h).trans (e))))))
theorem laws_FnTwice.bfar7 {W : World} {g g' i0 i1 i2 i3 i4 i5 i6 : Nat} {u0 u1 u2 u3 u4 u5 u6 : Value} {o : Option Obj} (h : g' ≠ g) (e : W.heap[g']? = o) : (((((((W.setCell ⟨g, i0, none⟩ u0).setCell ⟨g, i1, none⟩ u1).setCell ⟨g, i2, none⟩ u2).setCell ⟨g, i3, none⟩ u3).setCell ⟨g, i4, none⟩ u4).setCell ⟨g, i5, none⟩ u5).setCell ⟨g, i6, none⟩ u6).heap[g']? = o := (Below.heap_setCell _ _ _ _ h).trans ((Below.heap_setCell _ _ _ _ h).trans ((Below.heap_setCell _ _ _ _ h).trans ((Below.heap_setCell _ _ _ _ h).trans ((Below.heap_setCell _ _ _ _ h).trans ((Below.heap_setCell _ _ _ _ h).trans ((Below.heap_setCell _ _ _ _ h).trans (e)))))))
theorem laws_FnTwice.bfar8 {W : World} {g g' i0 i1 i2 i3 i4 i5 i6 i7 : Nat} {u0 u1 u2 u3 u4 u5 u6 u7 : Value} {o : Option Obj} (h : g' ≠ g) (e : W.heap[g']? = o) : ((((((((W.setCell ⟨g, i0, none⟩ u0).setCell ⟨g, i1, none⟩ u1).setCell ⟨g, i2, none⟩ u2).setCell ⟨g, i3, none⟩ u3).setCell ⟨g, i4, none⟩ u4).setCell ⟨g, i5, none⟩ u5).setCell ⟨g, i6, none⟩ u6).setCell ⟨g, i7, none⟩ u7).heap[g']? = o := (Below.heap_setCell _ _ _ _ h).trans ((Below.heap_setCell _ _ _ _ h).trans ((Below.heap_setCell _ _ _ _ h).trans ((Below.heap_setCell _ _ _ _ h).trans ((Below.heap_setCell _ _ _ _ h).trans ((Below.heap_setCell _ _ _ _ h).trans ((Below.heap_setCell _ _ _ _ h).trans ((Below.heap_setCell _ _ _ _ h).trans (e))))))))
theorem laws_FnTwice.lb {P : Program} {o : Oper} {a : Act} {T t : TypeId} {x : Operand} {g : Nat} {cs : Array Value} {d : TypeDesc} {W : World} (ho : o.op = .load T x) (hp : a.eval x = .pointer (some ⟨g, 0, none⟩)) (hb : W.heap[g]? = some (.cells cs t (0, 0)))
    (hu : P.underlying T = some d) (hr : (match d with | .struct _ | .array _ _ => true | _ => false) = true) (hi : (P.info? T).map (·.size) = some cs.toList.length) : (execOp a.eval o).run P W = .ok (.value (.agg cs)) W :=
  Arl.loads (S := fun W => W.heap[g]? = some (.cells cs t (0, 0))) (cl := cs.toList) ho hp (fun W h j v hj => by rw [add_plain]; exact (blk_cell h j).trans (by simpa using hj)) hu hr hi W hb
theorem laws_FnTwice.sb {P : Program} {o : Oper} {a : Act} {T t : TypeId} {x y : Operand} {g : Nat} {old : Array Value} {cl : List Value} {W : World} (ho : o.op = .store T x y) (hp : a.eval x = .pointer (some ⟨g, 0, none⟩)) (hv : a.eval y = .agg cl.toArray) (hb : W.heap[g]? = some (.cells old t (0, 0)))
    (hs : old.size = cl.length) (hi : (P.info? T).map (·.size) = some cl.length) (h1 : cl.all (·.oneCell') = true) : (execOp a.eval o).run P W = .ok .skip (W.setCells g 0 cl) := by
  have ht : W.there g 0 cl.length := fun j hj => ⟨by rw [Nat.zero_add, blk_cell hb]; simp; omega, by rw [Nat.zero_add]; exact blk_frozen hb j⟩
  have hr : (Instr.storeAt T (.pointer (some ⟨g, 0, none⟩)) (.agg cl.toArray)).run P W = .ok () (W.setCells g 0 cl) := by
    have := run_storeAt_mid (P := P) W g 0 T cl.toArray (by simpa using ht) (by simpa using hi) (by simpa using h1)
    simpa using this
  simp only [execOp, ho, hp, hv]
  simp [hr, Result.andThen]
theorem laws_FnTwice.sb2 {P : Program} {o : Oper} {a : Act} {T t : TypeId} {x y : Operand} {g : Nat} {old : Array Value} {u0 u1 : Value} {W : World} (ho : o.op = .store T x y) (hp : a.eval x = .pointer (some ⟨g, 0, none⟩)) (hv : a.eval y = .agg #[u0, u1]) (hb : W.heap[g]? = some (.cells old t (0, 0))) (hs : old.size = 2) (hi : (P.info? T).map (·.size) = some 2) (h1 : ([u0, u1] : List Value).all (·.oneCell') = true) : (execOp a.eval o).run P W = .ok .skip (((W.setCell ⟨g, 0, none⟩ u0).setCell ⟨g, 1, none⟩ u1)) := laws_FnTwice.sb (cl := [u0, u1]) ho hp hv hb hs hi h1
theorem laws_FnTwice.sb3 {P : Program} {o : Oper} {a : Act} {T t : TypeId} {x y : Operand} {g : Nat} {old : Array Value} {u0 u1 u2 : Value} {W : World} (ho : o.op = .store T x y) (hp : a.eval x = .pointer (some ⟨g, 0, none⟩)) (hv : a.eval y = .agg #[u0, u1, u2]) (hb : W.heap[g]? = some (.cells old t (0, 0))) (hs : old.size = 3) (hi : (P.info? T).map (·.size) = some 3) (h1 : ([u0, u1, u2] : List Value).all (·.oneCell') = true) : (execOp a.eval o).run P W = .ok .skip ((((W.setCell ⟨g, 0, none⟩ u0).setCell ⟨g, 1, none⟩ u1).setCell ⟨g, 2, none⟩ u2)) := laws_FnTwice.sb (cl := [u0, u1, u2]) ho hp hv hb hs hi h1
theorem laws_FnTwice.sb4 {P : Program} {o : Oper} {a : Act} {T t : TypeId} {x y : Operand} {g : Nat} {old : Array Value} {u0 u1 u2 u3 : Value} {W : World} (ho : o.op = .store T x y) (hp : a.eval x = .pointer (some ⟨g, 0, none⟩)) (hv : a.eval y = .agg #[u0, u1, u2, u3]) (hb : W.heap[g]? = some (.cells old t (0, 0))) (hs : old.size = 4) (hi : (P.info? T).map (·.size) = some 4) (h1 : ([u0, u1, u2, u3] : List Value).all (·.oneCell') = true) : (execOp a.eval o).run P W = .ok .skip (((((W.setCell ⟨g, 0, none⟩ u0).setCell ⟨g, 1, none⟩ u1).setCell ⟨g, 2, none⟩ u2).setCell ⟨g, 3, none⟩ u3)) := laws_FnTwice.sb (cl := [u0, u1, u2, u3]) ho hp hv hb hs hi h1
theorem laws_FnTwice.sb5 {P : Program} {o : Oper} {a : Act} {T t : TypeId} {x y : Operand} {g : Nat} {old : Array Value} {u0 u1 u2 u3 u4 : Value} {W : World} (ho : o.op = .store T x y) (hp : a.eval x = .pointer (some ⟨g, 0, none⟩)) (hv : a.eval y = .agg #[u0, u1, u2, u3, u4]) (hb : W.heap[g]? = some (.cells old t (0, 0))) (hs : old.size = 5) (hi : (P.info? T).map (·.size) = some 5) (h1 : ([u0, u1, u2, u3, u4] : List Value).all (·.oneCell') = true) : (execOp a.eval o).run P W = .ok .skip ((((((W.setCell ⟨g, 0, none⟩ u0).setCell ⟨g, 1, none⟩ u1).setCell ⟨g, 2, none⟩ u2).setCell ⟨g, 3, none⟩ u3).setCell ⟨g, 4, none⟩ u4)) := laws_FnTwice.sb (cl := [u0, u1, u2, u3, u4]) ho hp hv hb hs hi h1
theorem laws_FnTwice.sb6 {P : Program} {o : Oper} {a : Act} {T t : TypeId} {x y : Operand} {g : Nat} {old : Array Value} {u0 u1 u2 u3 u4 u5 : Value} {W : World} (ho : o.op = .store T x y) (hp : a.eval x = .pointer (some ⟨g, 0, none⟩)) (hv : a.eval y = .agg #[u0, u1, u2, u3, u4, u5]) (hb : W.heap[g]? = some (.cells old t (0, 0))) (hs : old.size = 6) (hi : (P.info? T).map (·.size) = some 6) (h1 : ([u0, u1, u2, u3, u4, u5] : List Value).all (·.oneCell') = true) : (execOp a.eval o).run P W = .ok .skip (((((((W.setCell ⟨g, 0, none⟩ u0).setCell ⟨g, 1, none⟩ u1).setCell ⟨g, 2, none⟩ u2).setCell ⟨g, 3, none⟩ u3).setCell ⟨g, 4, none⟩ u4).setCell ⟨g, 5, none⟩ u5)) := laws_FnTwice.sb (cl := [u0, u1, u2, u3, u4, u5]) ho hp hv hb hs hi h1
theorem laws_FnTwice.sb7 {P : Program} {o : Oper} {a : Act} {T t : TypeId} {x y : Operand} {g : Nat} {old : Array Value} {u0 u1 u2 u3 u4 u5 u6 : Value} {W : World} (ho : o.op = .store T x y) (hp : a.eval x = .pointer (some ⟨g, 0, none⟩)) (hv : a.eval y = .agg #[u0, u1, u2, u3, u4, u5, u6]) (hb : W.heap[g]? = some (.cells old t (0, 0))) (hs : old.size = 7) (hi : (P.info? T).map (·.size) = some 7) (h1 : ([u0, u1, u2, u3, u4, u5, u6] : List Value).all (·.oneCell') = true) : (execOp a.eval o).run P W = .ok .skip ((((((((W.setCell ⟨g, 0, none⟩ u0).setCell ⟨g, 1, none⟩ u1).setCell ⟨g, 2, none⟩ u2).setCell ⟨g, 3, none⟩ u3).setCell ⟨g, 4, none⟩ u4).setCell ⟨g, 5, none⟩ u5).setCell ⟨g, 6, none⟩ u6)) := laws_FnTwice.sb (cl := [u0, u1, u2, u3, u4, u5, u6]) ho hp hv hb hs hi h1
theorem laws_FnTwice.sb8 {P : Program} {o : Oper} {a : Act} {T t : TypeId} {x y : Operand} {g : Nat} {old : Array Value} {u0 u1 u2 u3 u4 u5 u6 u7 : Value} {W : World} (ho : o.op = .store T x y) (hp : a.eval x = .pointer (some ⟨g, 0, none⟩)) (hv : a.eval y = .agg #[u0, u1, u2, u3, u4, u5, u6, u7]) (hb : W.heap[g]? = some (.cells old t (0, 0))) (hs : old.size = 8) (hi : (P.info? T).map (·.size) = some 8) (h1 : ([u0, u1, u2, u3, u4, u5, u6, u7] : List Value).all (·.oneCell') = true) : (execOp a.eval o).run P W = .ok .skip (((((((((W.setCell ⟨g, 0, none⟩ u0).setCell ⟨g, 1, none⟩ u1).setCell ⟨g, 2, none⟩ u2).setCell ⟨g, 3, none⟩ u3).setCell ⟨g, 4, none⟩ u4).setCell ⟨g, 5, none⟩ u5).setCell ⟨g, 6, none⟩ u6).setCell ⟨g, 7, none⟩ u7)) := laws_FnTwice.sb (cl := [u0, u1, u2, u3, u4, u5, u6, u7]) ho hp hv hb hs hi h1
theorem laws_FnTwice.let_ {K : Act → World → Prop} {a : Act} {w : World} (h : ∀ w', w' = w → K a w') : K a w := h w rfl
mutual
def laws_FnTwice.l0 : Nat → List Int → List (S44) → Int → Int → Int → Int → Int → Int → Int → List (S44) → Int → Int → Int → Int → Int → List (S44) → Option (Bool)
  | 0, _, _, _, _, _, _, _, _, _, _, _, _, _, _, _, _ => none
  | k + 1, x0, x3, x6, x7, x198000, x198001, x198002, x198003, x198004, x198005, x199000, x199001, x199002, x199003, x199004, x199005 => if x7 < (x3.length : Int) then (if 0 ≤ x7 then ((impl_Put.f k x198000 x198001 x198002 x198003 x198004 x198005 ((rd_T44 x3 x7).f0) ((rd_T44 x3 x7).f1) ((rd_T44 x3 x7).f2.f0) ((rd_T44 x3 x7).f2.f1) ((rd_T44 x3 x7).f2.f2) ((rd_T44 x3 x7).f2.f3) ((rd_T44 x3 x7).f2.f4) ((rd_T44 x3 x7).f2.f5) ((rd_T44 x3 x7).f2.f6) ((rd_T44 x3 x7).f2.f7) ((rd_T44 x3 x7).f2.f8) ((rd_T44 x3 x7).f2.f9) ((rd_T44 x3 x7).f2.f10) ((rd_T44 x3 x7).f2.f11) ((rd_T44 x3 x7).f2.f12) ((rd_T44 x3 x7).f2.f13) ((rd_T44 x3 x7).f2.f14) ((rd_T44 x3 x7).f2.f15)).bind fun bt200 => ((impl_Put.f k x199000 x199001 x199002 x199003 x199004 x199005 ((rd_T44 x3 x7).f0) ((rd_T44 x3 x7).f1) ((rd_T44 x3 x7).f2.f0) ((rd_T44 x3 x7).f2.f1) ((rd_T44 x3 x7).f2.f2) ((rd_T44 x3 x7).f2.f3) ((rd_T44 x3 x7).f2.f4) ((rd_T44 x3 x7).f2.f5) ((rd_T44 x3 x7).f2.f6) ((rd_T44 x3 x7).f2.f7) ((rd_T44 x3 x7).f2.f8) ((rd_T44 x3 x7).f2.f9) ((rd_T44 x3 x7).f2.f10) ((rd_T44 x3 x7).f2.f11) ((rd_T44 x3 x7).f2.f12) ((rd_T44 x3 x7).f2.f13) ((rd_T44 x3 x7).f2.f14) ((rd_T44 x3 x7).f2.f15)).bind fun bt211 => (if bt200.2.2.2.2.2.2 = true then (laws_FnTwice.j1 k x0 x3 x6 x7 bt211.2.2.2.2.2.2 (!bt211.2.2.2.2.2.2) bt200.1 bt200.2.1 bt200.2.2.1 bt200.2.2.2.1 bt200.2.2.2.2.1 bt200.2.2.2.2.2.1 bt211.1 bt211.2.1 bt211.2.2.1 bt211.2.2.2.1 bt211.2.2.2.2.1 bt211.2.2.2.2.2.1) else (laws_FnTwice.j1 k x0 x3 x6 x7 bt211.2.2.2.2.2.2 true bt200.1 bt200.2.1 bt200.2.2.1 bt200.2.2.2.1 bt200.2.2.2.2.1 bt200.2.2.2.2.2.1 bt211.1 bt211.2.1 bt211.2.2.1 bt211.2.2.2.1 bt211.2.2.2.2.1 bt211.2.2.2.2.2.1)))) else (none)) else (if x199002 = x6 then (if x198002 = 0 then (if x198003 = 0 then (if x199003 = 0 then (some (x198004 == x199004)) else (some false)) else (some false)) else (some false)) else (some false))
def laws_FnTwice.j1 : Nat → List Int → List (S44) → Int → Int → Bool → Bool → Int → Int → Int → Int → Int → List (S44) → Int → Int → Int → Int → Int → List (S44) → Option (Bool)
  | 0, _, _, _, _, _, _, _, _, _, _, _, _, _, _, _, _, _, _ => none
  | k + 1, x0, x3, x6, x7, x11, x55, x210000, x210001, x210002, x210003, x210004, x210005, x221000, x221001, x221002, x221003, x221004, x221005 => if x55 = true then (some false) else ((laws_at.f x0 x7).bind fun t221 => (if (Int.tmod t221 2) = 0 then (if 0 ≤ x7 then (if x7 < (x3.length : Int) then ((impl_Put.f k x221000 x221001 x221002 x221003 x221004 x221005 ((rd_T44 x3 x7).f0) ((rd_T44 x3 x7).f1) ((rd_T44 x3 x7).f2.f0) ((rd_T44 x3 x7).f2.f1) ((rd_T44 x3 x7).f2.f2) ((rd_T44 x3 x7).f2.f3) ((rd_T44 x3 x7).f2.f4) ((rd_T44 x3 x7).f2.f5) ((rd_T44 x3 x7).f2.f6) ((rd_T44 x3 x7).f2.f7) ((rd_T44 x3 x7).f2.f8) ((rd_T44 x3 x7).f2.f9) ((rd_T44 x3 x7).f2.f10) ((rd_T44 x3 x7).f2.f11) ((rd_T44 x3 x7).f2.f12) ((rd_T44 x3 x7).f2.f13) ((rd_T44 x3 x7).f2.f14) ((rd_T44 x3 x7).f2.f15)).bind fun bt223 => (laws_FnTwice.j2 k x0 x3 (wrap64 (x6 + 1)) x7 bt223.2.2.2.2.2.2 x210000 x210001 x210002 x210003 x210004 x210005 bt223.1 bt223.2.1 bt223.2.2.1 bt223.2.2.2.1 bt223.2.2.2.2.1 bt223.2.2.2.2.2.1)) else (none)) else (none)) else (laws_FnTwice.j2 k x0 x3 x6 x7 x11 x210000 x210001 x210002 x210003 x210004 x210005 x221000 x221001 x221002 x221003 x221004 x221005)))
def laws_FnTwice.j2 : Nat → List Int → List (S44) → Int → Int → Bool → Int → Int → Int → Int → Int → List (S44) → Int → Int → Int → Int → Int → List (S44) → Option (Bool)
  | 0, _, _, _, _, _, _, _, _, _, _, _, _, _, _, _, _, _ => none
  | k + 1, x0, x3, x6, x7, x11, x198000, x198001, x198002, x198003, x198004, x198005, x199000, x199001, x199002, x199003, x199004, x199005 => (impl_Play.f k x198000 x198001 x198002 x198003 x198004 x198005).bind fun bt232 => ((impl_Play.f k x199000 x199001 x199002 x199003 x199004 x199005).bind fun bt244 => (if x11 = true then (if bt232.2.2.2.2.2.2.2 = true then (if bt244.2.2.2.2.2.2.2 = true then ((laws_sameInts.f k bt232.2.2.2.2.2.2.1 bt244.2.2.2.2.2.2.1).bind fun t256 => (if t256 = true then (laws_FnTwice.j3 k x0 x3 x6 x7 ((bt232.2.2.2.2.2.2.1.length : Int) != 30) bt232.1 bt232.2.1 bt232.2.2.1 bt232.2.2.2.1 bt232.2.2.2.2.1 bt232.2.2.2.2.2.1 bt244.1 bt244.2.1 bt244.2.2.1 bt244.2.2.2.1 bt244.2.2.2.2.1 bt244.2.2.2.2.2.1) else (laws_FnTwice.j3 k x0 x3 x6 x7 true bt232.1 bt232.2.1 bt232.2.2.1 bt232.2.2.2.1 bt232.2.2.2.2.1 bt232.2.2.2.2.2.1 bt244.1 bt244.2.1 bt244.2.2.1 bt244.2.2.2.1 bt244.2.2.2.2.1 bt244.2.2.2.2.2.1))) else (laws_FnTwice.j3 k x0 x3 x6 x7 true bt232.1 bt232.2.1 bt232.2.2.1 bt232.2.2.2.1 bt232.2.2.2.2.1 bt232.2.2.2.2.2.1 bt244.1 bt244.2.1 bt244.2.2.1 bt244.2.2.2.1 bt244.2.2.2.2.1 bt244.2.2.2.2.2.1)) else (laws_FnTwice.j3 k x0 x3 x6 x7 true bt232.1 bt232.2.1 bt232.2.2.1 bt232.2.2.2.1 bt232.2.2.2.2.1 bt232.2.2.2.2.2.1 bt244.1 bt244.2.1 bt244.2.2.1 bt244.2.2.2.1 bt244.2.2.2.2.1 bt244.2.2.2.2.2.1)) else (laws_FnTwice.j3 k x0 x3 x6 x7 true bt232.1 bt232.2.1 bt232.2.2.1 bt232.2.2.2.1 bt232.2.2.2.2.1 bt232.2.2.2.2.2.1 bt244.1 bt244.2.1 bt244.2.2.1 bt244.2.2.2.1 bt244.2.2.2.2.1 bt244.2.2.2.2.2.1)))
def laws_FnTwice.j3 : Nat → List Int → List (S44) → Int → Int → Bool → Int → Int → Int → Int → Int → List (S44) → Int → Int → Int → Int → Int → List (S44) → Option (Bool)
  | 0, _, _, _, _, _, _, _, _, _, _, _, _, _, _, _, _, _ => none
  | k + 1, x0, x3, x6, x7, x106, x210000, x210001, x210002, x210003, x210004, x210005, x221000, x221001, x221002, x221003, x221004, x221005 => if x106 = true then (some false) else (laws_FnTwice.l0 k x0 x3 x6 (wrap64 (x7 + 1)) x210000 x210001 x210002 x210003 x210004 x210005 x221000 x221001 x221002 x221003 x221004 x221005)
end
def laws_FnTwice.f (k : Nat) (l0 : List Int) : Option (Bool) := (laws_big.f l0).bind fun t192 => (if t192 = true then (some true) else ((laws_at.f l0 0).bind fun t193 => ((laws_frames.f l0 (wrap64 (2 + (Int.tmod t193 9)))).bind fun t194 => (laws_FnTwice.l0 k l0 t194 0 0 0 1 0 0 0 ([] : List (S44)) 0 1 0 0 0 ([] : List (S44))))))
theorem laws_FnTwice.mono_l : ∀ k, (∀ y0 y1 y2 y3 y4 y5 y6 y7 y8 y9 y10 y11 y12 y13 y14 y15, LeO (laws_FnTwice.l0 k y0 y1 y2 y3 y4 y5 y6 y7 y8 y9 y10 y11 y12 y13 y14 y15) (laws_FnTwice.l0 (k + 1) y0 y1 y2 y3 y4 y5 y6 y7 y8 y9 y10 y11 y12 y13 y14 y15)) ∧ (∀ y0 y1 y2 y3 y4 y5 y6 y7 y8 y9 y10 y11 y12 y13 y14 y15 y16 y17, LeO (laws_FnTwice.j1 k y0 y1 y2 y3 y4 y5 y6 y7 y8 y9 y10 y11 y12 y13 y14 y15 y16 y17) (laws_FnTwice.j1 (k + 1) y0 y1 y2 y3 y4 y5 y6 y7 y8 y9 y10 y11 y12 y13 y14 y15 y16 y17)) ∧ (∀ y0 y1 y2 y3 y4 y5 y6 y7 y8 y9 y10 y11 y12 y13 y14 y15 y16, LeO (laws_FnTwice.j2 k y0 y1 y2 y3 y4 y5 y6 y7 y8 y9 y10 y11 y12 y13 y14 y15 y16) (laws_FnTwice.j2 (k + 1) y0 y1 y2 y3 y4 y5 y6 y7 y8 y9 y10 y11 y12 y13 y14 y15 y16)) ∧ (∀ y0 y1 y2 y3 y4 y5 y6 y7 y8 y9 y10 y11 y12 y13 y14 y15 y16, LeO (laws_FnTwice.j3 k y0 y1 y2 y3 y4 y5 y6 y7 y8 y9 y10 y11 y12 y13 y14 y15 y16) (laws_FnTwice.j3 (k + 1) y0 y1 y2 y3 y4 y5 y6 y7 y8 y9 y10 y11 y12 y13 y14 y15 y16))
  | 0 => ⟨fun _ _ _ _ _ _ _ _ _ _ _ _ _ _ _ _ r h => by simp [laws_FnTwice.l0] at h, fun _ _ _ _ _ _ _ _ _ _ _ _ _ _ _ _ _ _ r h => by simp [laws_FnTwice.j1] at h, fun _ _ _ _ _ _ _ _ _ _ _ _ _ _ _ _ _ r h => by simp [laws_FnTwice.j2] at h, fun _ _ _ _ _ _ _ _ _ _ _ _ _ _ _ _ _ r h => by simp [laws_FnTwice.j3] at h⟩
  | k + 1 => by
    obtain ⟨ih0, ih1, ih2, ih3⟩ := laws_FnTwice.mono_l k
    refine ⟨?_, ?_, ?_, ?_⟩
    · intro y0 y1 y2 y3 y4 y5 y6 y7 y8 y9 y10 y11 y12 y13 y14 y15
      unfold laws_FnTwice.l0
      repeat' first
      | (with_reducible exact ih0 _ _ _ _ _ _ _ _ _ _ _ _ _ _ _ _)
      | (with_reducible exact ih1 _ _ _ _ _ _ _ _ _ _ _ _ _ _ _ _ _ _)
      | (with_reducible exact ih2 _ _ _ _ _ _ _ _ _ _ _ _ _ _ _ _ _)
      | (with_reducible exact ih3 _ _ _ _ _ _ _ _ _ _ _ _ _ _ _ _ _)
      | (with_reducible exact impl_Play.mono _ _ _ _ _ _ _)
      | (with_reducible exact impl_Put.mono _ _ _ _ _ _ _ _ _ _ _ _ _ _ _ _ _ _ _ _ _ _ _ _ _)
      | (with_reducible exact laws_sameInts.mono _ _ _)
      | (with_reducible exact LeO.refl _)
      | (with_reducible exact LeO.none _)
      | (with_reducible refine LeO.ite ?_ ?_)
      | (with_reducible refine LeO.bind ?_ (fun _ => ?_))
      | exact ih0 _ _ _ _ _ _ _ _ _ _ _ _ _ _ _ _
      | exact ih1 _ _ _ _ _ _ _ _ _ _ _ _ _ _ _ _ _ _
      | exact ih2 _ _ _ _ _ _ _ _ _ _ _ _ _ _ _ _ _
      | exact ih3 _ _ _ _ _ _ _ _ _ _ _ _ _ _ _ _ _
      | exact impl_Play.mono _ _ _ _ _ _ _
      | exact impl_Put.mono _ _ _ _ _ _ _ _ _ _ _ _ _ _ _ _ _ _ _ _ _ _ _ _ _
      | exact laws_sameInts.mono _ _ _
      | exact LeO.none _
      | refine LeO.ite ?_ ?_
      | refine LeO.bind ?_ (fun _ => ?_)
    · intro y0 y1 y2 y3 y4 y5 y6 y7 y8 y9 y10 y11 y12 y13 y14 y15 y16 y17
      unfold laws_FnTwice.j1
      repeat' first
      | (with_reducible exact ih0 _ _ _ _ _ _ _ _ _ _ _ _ _ _ _ _)
      | (with_reducible exact ih1 _ _ _ _ _ _ _ _ _ _ _ _ _ _ _ _ _ _)
      | (with_reducible exact ih2 _ _ _ _ _ _ _ _ _ _ _ _ _ _ _ _ _)
      | (with_reducible exact ih3 _ _ _ _ _ _ _ _ _ _ _ _ _ _ _ _ _)
      | (with_reducible exact impl_Play.mono _ _ _ _ _ _ _)
      | (with_reducible exact impl_Put.mono _ _ _ _ _ _ _ _ _ _ _ _ _ _ _ _ _ _ _ _ _ _ _ _ _)
      | (with_reducible exact laws_sameInts.mono _ _ _)
      | (with_reducible exact LeO.refl _)
      | (with_reducible exact LeO.none _)
      | (with_reducible refine LeO.ite ?_ ?_)
      | (with_reducible refine LeO.bind ?_ (fun _ => ?_))
      | exact ih0 _ _ _ _ _ _ _ _ _ _ _ _ _ _ _ _
      | exact ih1 _ _ _ _ _ _ _ _ _ _ _ _ _ _ _ _ _ _
      | exact ih2 _ _ _ _ _ _ _ _ _ _ _ _ _ _ _ _ _
      | exact ih3 _ _ _ _ _ _ _ _ _ _ _ _ _ _ _ _ _
      | exact impl_Play.mono _ _ _ _ _ _ _
      | exact impl_Put.mono _ _ _ _ _ _ _ _ _ _ _ _ _ _ _ _ _ _ _ _ _ _ _ _ _
      | exact laws_sameInts.mono _ _ _
      | exact LeO.none _
      | refine LeO.ite ?_ ?_
      | refine LeO.bind ?_ (fun _ => ?_)
    · intro y0 y1 y2 y3 y4 y5 y6 y7 y8 y9 y10 y11 y12 y13 y14 y15 y16
      unfold laws_FnTwice.j2
      repeat' first
      | (with_reducible exact ih0 _ _ _ _ _ _ _ _ _ _ _ _ _ _ _ _)
      | (with_reducible exact ih1 _ _ _ _ _ _ _ _ _ _ _ _ _ _ _ _ _ _)
      | (with_reducible exact ih2 _ _ _ _ _ _ _ _ _ _ _ _ _ _ _ _ _)
      | (with_reducible exact ih3 _ _ _ _ _ _ _ _ _ _ _ _ _ _ _ _ _)
      | (with_reducible exact impl_Play.mono _ _ _ _ _ _ _)
      | (with_reducible exact impl_Put.mono _ _ _ _ _ _ _ _ _ _ _ _ _ _ _ _ _ _ _ _ _ _ _ _ _)
      | (with_reducible exact laws_sameInts.mono _ _ _)
      | (with_reducible exact LeO.refl _)
      | (with_reducible exact LeO.none _)
      | (with_reducible refine LeO.ite ?_ ?_)
      | (with_reducible refine LeO.bind ?_ (fun _ => ?_))
      | exact ih0 _ _ _ _ _ _ _ _ _ _ _ _ _ _ _ _
      | exact ih1 _ _ _ _ _ _ _ _ _ _ _ _ _ _ _ _ _ _
      | exact ih2 _ _ _ _ _ _ _ _ _ _ _ _ _ _ _ _ _
      | exact ih3 _ _ _ _ _ _ _ _ _ _ _ _ _ _ _ _ _
      | exact impl_Play.mono _ _ _ _ _ _ _
      | exact impl_Put.mono _ _ _ _ _ _ _ _ _ _ _ _ _ _ _ _ _ _ _ _ _ _ _ _ _
      | exact laws_sameInts.mono _ _ _
      | exact LeO.none _
      | refine LeO.ite ?_ ?_
      | refine LeO.bind ?_ (fun _ => ?_)
    · intro y0 y1 y2 y3 y4 y5 y6 y7 y8 y9 y10 y11 y12 y13 y14 y15 y16
      unfold laws_FnTwice.j3
      repeat' first
      | (with_reducible exact ih0 _ _ _ _ _ _ _ _ _ _ _ _ _ _ _ _)
      | (with_reducible exact ih1 _ _ _ _ _ _ _ _ _ _ _ _ _ _ _ _ _ _)
      | (with_reducible exact ih2 _ _ _ _ _ _ _ _ _ _ _ _ _ _ _ _ _)
      | (with_reducible exact ih3 _ _ _ _ _ _ _ _ _ _ _ _ _ _ _ _ _)
      | (with_reducible exact impl_Play.mono _ _ _ _ _ _ _)
      | (with_reducible exact impl_Put.mono _ _ _ _ _ _ _ _ _ _ _ _ _ _ _ _ _ _ _ _ _ _ _ _ _)
      | (with_reducible exact laws_sameInts.mono _ _ _)
      | (with_reducible exact LeO.refl _)
      | (with_reducible exact LeO.none _)
      | (with_reducible refine LeO.ite ?_ ?_)
      | (with_reducible refine LeO.bind ?_ (fun _ => ?_))
      | exact ih0 _ _ _ _ _ _ _ _ _ _ _ _ _ _ _ _
      | exact ih1 _ _ _ _ _ _ _ _ _ _ _ _ _ _ _ _ _ _
      | exact ih2 _ _ _ _ _ _ _ _ _ _ _ _ _ _ _ _ _
      | exact ih3 _ _ _ _ _ _ _ _ _ _ _ _ _ _ _ _ _
      | exact impl_Play.mono _ _ _ _ _ _ _
      | exact impl_Put.mono _ _ _ _ _ _ _ _ _ _ _ _ _ _ _ _ _ _ _ _ _ _ _ _ _
      | exact laws_sameInts.mono _ _ _
      | exact LeO.none _
      | refine LeO.ite ?_ ?_
      | refine LeO.bind ?_ (fun _ => ?_)
theorem laws_FnTwice.mono : ∀ a0 k, LeO (laws_FnTwice.f k a0) (laws_FnTwice.f (k + 1) a0) := by
  intro a0 k
  obtain ⟨ih0, ih1, ih2, ih3⟩ := laws_FnTwice.mono_l k
  unfold laws_FnTwice.f
  repeat' first
      | (with_reducible exact ih0 _ _ _ _ _ _ _ _ _ _ _ _ _ _ _ _)
      | (with_reducible exact ih1 _ _ _ _ _ _ _ _ _ _ _ _ _ _ _ _ _ _)
      | (with_reducible exact ih2 _ _ _ _ _ _ _ _ _ _ _ _ _ _ _ _ _)
      | (with_reducible exact ih3 _ _ _ _ _ _ _ _ _ _ _ _ _ _ _ _ _)
      | (with_reducible exact impl_Play.mono _ _ _ _ _ _ _)
      | (with_reducible exact impl_Put.mono _ _ _ _ _ _ _ _ _ _ _ _ _ _ _ _ _ _ _ _ _ _ _ _ _)
      | (with_reducible exact laws_sameInts.mono _ _ _)
      | (with_reducible exact LeO.refl _)
      | (with_reducible exact LeO.none _)
      | (with_reducible refine LeO.ite ?_ ?_)
      | (with_reducible refine LeO.bind ?_ (fun _ => ?_))
      | exact ih0 _ _ _ _ _ _ _ _ _ _ _ _ _ _ _ _
      | exact ih1 _ _ _ _ _ _ _ _ _ _ _ _ _ _ _ _ _ _
      | exact ih2 _ _ _ _ _ _ _ _ _ _ _ _ _ _ _ _ _
      | exact ih3 _ _ _ _ _ _ _ _ _ _ _ _ _ _ _ _ _
      | exact impl_Play.mono _ _ _ _ _ _ _
      | exact impl_Put.mono _ _ _ _ _ _ _ _ _ _ _ _ _ _ _ _ _ _ _ _ _ _ _ _ _
      | exact laws_sameInts.mono _ _ _
      | exact LeO.none _
      | refine LeO.ite ?_ ?_
      | refine LeO.bind ?_ (fun _ => ?_)
def laws_FnTwice.T10 : Bool × List (List Nat × List Nat) := (true, [([], []), ([], []), ([], []), ([1, 2], [1, 2]), ([3], [3]), ([0, 4], [0, 4]), ([5], [5]), ([6], [6]), ([6], [6]), ([], []), ([9, 7, 5, 0, 1, 2, 3, 4, 5, 6, 7, 9], [7, 9]), ([8, 10, 0, 1, 2, 3, 4, 5, 6, 7, 8, 9, 10], [8])])
def laws_FnTwice.B10 : List Nat := [0, 0, 0, 6, 14, 31, 63, 127, 127, 0, 767, 2047]
theorem laws_FnTwice.tab10 : rtab .any (opsOf Try.f9 10) = laws_FnTwice.T10 := by kernel_rfl
theorem laws_FnTwice.bits10 : waitsOk laws_FnTwice.T10.2 laws_FnTwice.B10 = true := by kernel_rfl
def laws_FnTwice.T11 : Bool × List (List Nat × List Nat) := (true, [([], []), ([], []), ([], []), ([1, 2], [1, 2]), ([3], [3]), ([0, 4], [0, 4]), ([5], [5]), ([6], [6]), ([6], [6]), ([], []), ([9, 7, 5, 0, 1, 2, 3, 4, 5, 6, 7, 9], [7, 9]), ([8, 10, 0, 1, 2, 3, 4, 5, 6, 7, 8, 9, 10], [8])])
def laws_FnTwice.B11 : List Nat := [0, 0, 0, 6, 14, 31, 63, 127, 127, 0, 767, 2047]
theorem laws_FnTwice.tab11 : rtab .any (opsOf Try.f9 11) = laws_FnTwice.T11 := by kernel_rfl
theorem laws_FnTwice.bits11 : waitsOk laws_FnTwice.T11.2 laws_FnTwice.B11 = true := by kernel_rfl
def laws_FnTwice.T16 : Bool × List (List Nat × List Nat) := (true, [([], []), ([], []), ([], []), ([1, 2], [1, 2]), ([3], [3]), ([0, 4], [0, 4]), ([5], [5]), ([6], [6]), ([6], [6]), ([7, 5, 0, 1, 2, 3, 4, 5, 6, 7], [7]), ([8, 9, 0, 1, 2, 3, 4, 5, 6, 7, 8, 9], [8])])
def laws_FnTwice.B16 : List Nat := [0, 0, 0, 6, 14, 31, 63, 127, 127, 255, 1023]
theorem laws_FnTwice.tab16 : rtab .any (opsOf Try.f9 16) = laws_FnTwice.T16 := by kernel_rfl
theorem laws_FnTwice.bits16 : waitsOk laws_FnTwice.T16.2 laws_FnTwice.B16 = true := by kernel_rfl
set_option maxHeartbeats 60000000 in
set_option maxRecDepth 100000 in
theorem laws_FnTwice.calls (k : Nat) (A0 : Option Addr) (c0 : Nat) (l0 : List Int) (r : Bool) (w : World) (hr0 : Kd.C (Kd.int .u8) w A0 l0.length l0) (hc0 : l0.length ≤ c0) (h : laws_FnTwice.f k l0 = some r) :
    Calls Try.prog 9 #[.slice A0 l0.length c0] w fun e w' => e = .returned (.bool r) ∧ Below w.heap.size w w' := by
  have hu35 := Try.underlying35
  have hu44 := Try.underlying44
  have HR0 := Aside0.mk hr0
  have HC0 := Aside0.mk hc0
  clear hr0 hc0
  have HB := Aside0.mk (Below.refl w.heap.size w)
  have H : ((laws_big.f l0).bind fun t192 => (if t192 = true then (some true) else ((laws_at.f l0 0).bind fun t193 => ((laws_frames.f l0 (wrap64 (2 + (Int.tmod t193 9)))).bind fun t194 => (laws_FnTwice.l0 k l0 t194 0 0 0 1 0 0 0 ([] : List (S44)) 0 1 0 0 0 ([] : List (S44))))))) = some r := h
  clear h
  replace H := Option.bind_eq_some_iff.mp H
  obtain ⟨t192, A20, H⟩ := H
  replace H : (if t192 = true then (some true) else ((laws_at.f l0 0).bind fun t193 => ((laws_frames.f l0 (wrap64 (2 + (Int.tmod t193 9)))).bind fun t194 => (laws_FnTwice.l0 k l0 t194 0 0 0 1 0 0 0 ([] : List (S44)) 0 1 0 0 0 ([] : List (S44)))))) = some r := H
  have A2 := Aside0.mk A20
  clear A20
  by_cases c3 : t192 = true
  · subst c3
    have H1 : (some true) = some r := by rw [if_pos rfl] at H; exact H
    clear H
    have H := H1
    clear H1
    as_aux_lemma =>
      obtain rfl := Option.some.inj H
      go_enter Try.func9, Try.ntmps9
      go_wp2_with (first | ((with_reducible refine gate_callee (f := 37) rfl ?_); refine goesL_ (some 17) rfl rfl Try.func37 (by kernel_rfl) rfl #[.slice A0 l0.length c0] rfl (by (try simp only [List.map_toArray, List.map_cons, List.map_nil]); first | done | rfl | (simp only [List.length_drop, List.length_take]; rfl)) ?_; (with_reducible refine (laws_big.calls _ _ l0 true _ ?side1 ?side2 A2.out).mono ?_); (case side1 => repeat (first | exact HR0.out | (with_reducible refine Kd.C_alloc ?_ _) | (with_reducible refine Kd.C_drewN ?_ _) | (with_reducible refine Kd.C_drew ?_))); (case side2 => exact HC0.out); rintro e w' ⟨rfl, ⟨nd, rfl⟩⟩; refine ⟨_, rfl, ?_⟩))
      go_ret
      exact ⟨by first | rfl | (simp [errW_none, errW_some] <;> rfl) | (simp [*, errW_none, errW_some] <;> rfl), belowNow⟩
  · replace c3 := Bool.eq_false_iff.mpr c3
    subst c3
    have H1 : ((laws_at.f l0 0).bind fun t193 => ((laws_frames.f l0 (wrap64 (2 + (Int.tmod t193 9)))).bind fun t194 => (laws_FnTwice.l0 k l0 t194 0 0 0 1 0 0 0 ([] : List (S44)) 0 1 0 0 0 ([] : List (S44))))) = some r := by rw [if_neg (show ¬ (false = true) by decide)] at H; exact H
    clear H
    have H := H1
    clear H1
    replace H := Option.bind_eq_some_iff.mp H
    obtain ⟨t193, A40, H⟩ := H
    replace H : ((laws_frames.f l0 (wrap64 (2 + (Int.tmod t193 9)))).bind fun t194 => (laws_FnTwice.l0 k l0 t194 0 0 0 1 0 0 0 ([] : List (S44)) 0 1 0 0 0 ([] : List (S44)))) = some r := H
    have A4 := Aside0.mk A40
    clear A40
    replace H := Option.bind_eq_some_iff.mp H
    obtain ⟨t194, A50, H⟩ := H
    replace H : (laws_FnTwice.l0 k l0 t194 0 0 0 1 0 0 0 ([] : List (S44)) 0 1 0 0 0 ([] : List (S44))) = some r := H
    have A5 := Aside0.mk A50
    clear A50
    have H' := Aside0.mk H
    clear H
    go_enter Try.func9, Try.ntmps9
    go_wp2_with (first | ((with_reducible refine gate_callee (f := 37) rfl ?_); refine goesL_ (some 17) rfl rfl Try.func37 (by kernel_rfl) rfl #[.slice A0 l0.length c0] rfl (by (try simp only [List.map_toArray, List.map_cons, List.map_nil]); first | done | rfl | (simp only [List.length_drop, List.length_take]; rfl)) ?_; (with_reducible refine (laws_big.calls _ _ l0 false _ ?side1 ?side2 A2.out).mono ?_); (case side1 => repeat (first | exact HR0.out | (with_reducible refine Kd.C_alloc ?_ _) | (with_reducible refine Kd.C_drewN ?_ _) | (with_reducible refine Kd.C_drew ?_))); (case side2 => exact HC0.out); rintro e w' ⟨rfl, ⟨nd, rfl⟩⟩; refine ⟨_, rfl, ?_⟩) | ((with_reducible refine gate_callee (f := 39) rfl ?_); refine goesL_ (some 20) rfl rfl Try.func39 (by kernel_rfl) rfl #[.slice A0 l0.length c0, .int .i64 0] rfl (by (try simp only [List.map_toArray, List.map_cons, List.map_nil]); first | done | rfl | (simp only [List.length_drop, List.length_take]; rfl)) ?_; (with_reducible refine (laws_at.calls _ _ l0 0 t193 _ ?side1 ?side2 A4.out).mono ?_); (case side1 => repeat (first | exact HR0.out | (with_reducible refine Kd.C_alloc ?_ _) | (with_reducible refine Kd.C_drewN ?_ _) | (with_reducible refine Kd.C_drew ?_))); (case side2 => exact HC0.out); rintro e w' ⟨rfl, ⟨nd, rfl⟩⟩; refine ⟨_, rfl, ?_⟩) | ((with_reducible refine gate_callee (f := 38) rfl ?_); refine goesL_ (some 23) rfl rfl Try.func38 (by kernel_rfl) rfl #[.slice A0 l0.length c0, .int .i64 (wrap64 (2 + (Int.tmod t193 9)))] rfl (by (try simp only [List.map_toArray, List.map_cons, List.map_nil]); first | done | rfl | (simp only [List.length_drop, List.length_take]; rfl)) ?_; (with_reducible refine (laws_frames.calls _ _ l0 (wrap64 (2 + (Int.tmod t193 9))) t194 _ ?side1 ?side2 A5.out).mono ?_); (case side1 => repeat (first | exact HR0.out | (with_reducible refine Kd.C_alloc ?_ _) | (with_reducible refine Kd.C_drewN ?_ _) | (with_reducible refine Kd.C_drew ?_))); (case side2 => exact HC0.out); rintro e w6 ⟨v195, rfl, ho0, hb⟩; refine ⟨_, rfl, ?_⟩; have n0_ := Aside0.mk (Kd.R_lower ho0 (below_size belowNow)); have n1_ := Aside0.mk (below_step belowNow hb); clear HB; have HO196 := n0_; have HB := n1_; clear n0_ n1_; (try clear hb); (try clear hb2); (try clear hk); (try clear hi); (try clear ho0)) | ((with_reducible refine gate_dst (N := 4) rfl ?_); (try (refine gate_guard (by rfl) ?_; dsimp only)); refine box_event ?hg (N := 4) ?hd (cs := #[.int .i64 0, .int .i64 0, .int .i64 0, .int .i64 0, .int .i64 0, .slice none 0 0]) (t := 35) ?hr ?_; (case hd => rfl); (case hg => rfl); (case hr => first | (go_simp; done) | (go_simp; rfl)); intro gb197 hg w7 hbox hb; have n0_ := Aside0.mk (Kd.R_below (by (with_reducible repeat (first | apply Kd.R_alloc | apply Kd.R_drewN | apply Kd.R_drew)); exact HO196.out) hb); have n1_ := Aside0.mk (below_step belowNow hb); have n2_ := Aside0.mk (hbox); have n3_ := Aside0.mk ((by rw [hg]; exact (below_size belowNow) : w.heap.size ≤ gb197)); have n4_ := n3_; clear HO196; clear HB; have HO196 := n0_; have HB := n1_; have BK197 := n2_; have GW197 := n3_; have GE197 := n4_; clear n0_ n1_ n2_ n3_ n4_; clear hb hbox hg; have hcz8_0 : w7.cell? ⟨gb197, 0, none⟩ = some (.int .i64 0) := (blk_cell BK197.out 0).trans rfl; have hcz8_1 : w7.cell? ⟨gb197, 1, none⟩ = some (.int .i64 0) := (blk_cell BK197.out 1).trans rfl; have hcz8_2 : w7.cell? ⟨gb197, 2, none⟩ = some (.int .i64 0) := (blk_cell BK197.out 2).trans rfl; have hcz8_3 : w7.cell? ⟨gb197, 3, none⟩ = some (.int .i64 0) := (blk_cell BK197.out 3).trans rfl; have hcz8_4 : w7.cell? ⟨gb197, 4, none⟩ = some (.int .i64 0) := (blk_cell BK197.out 4).trans rfl; have hcz8_5 : w7.cell? ⟨gb197, 5, none⟩ = some (.slice none 0 0) := (blk_cell BK197.out 5).trans rfl; have hfz8_0 := blk_frozen BK197.out 0; have hfz8_1 := blk_frozen BK197.out 1; have hfz8_2 := blk_frozen BK197.out 2; have hfz8_3 := blk_frozen BK197.out 3; have hfz8_4 := blk_frozen BK197.out 4; have hfz8_5 := blk_frozen BK197.out 5) | ((with_reducible refine gate_dst (N := 5) rfl ?_); (try (refine gate_guard (by rfl) ?_; dsimp only)); refine box_event ?hg (N := 5) ?hd (cs := #[.int .i64 0, .int .i64 0, .int .i64 0, .int .i64 0, .int .i64 0, .slice none 0 0]) (t := 35) ?hr ?_; (case hd => rfl); (case hg => rfl); (case hr => first | (go_simp; done) | (go_simp; rfl)); intro gb198 hg w9 hbox hb; have n0_ := Aside0.mk (Kd.R_below (by (with_reducible repeat (first | apply Kd.R_alloc | apply Kd.R_drewN | apply Kd.R_drew)); exact (Kd.R_mono (Far.rfar6_ (fun _ hk => hk.2) (Kd.R_types HO196.out BK197.out (by decide))) (fun _ h_ => h_.1))) hb); have n1_ := Aside0.mk (blk_below (g := gb197) (o := .cells #[.int .i64 0, .int .i64 1, .int .i64 0, .int .i64 0, .int .i64 0, .slice none 0 0] 35 (0, 0)) (by (with_reducible repeat (first | refine blk_drewN ?_ _ | refine blk_drew ?_ | refine blk_alloc ?_ _)); refine Far.put6_ #[.int .i64 0, .int .i64 0, .int .i64 0, .int .i64 0, .int .i64 0, .slice none 0 0] rfl ?_; (with_reducible repeat (first | refine blk_drewN ?_ _ | refine blk_drew ?_ | refine blk_alloc ?_ _)); exact BK197.out) hb); have n2_ := Aside0.mk (below_step belowNow hb); have n3_ := Aside0.mk (hbox); have n4_ := Aside0.mk ((by rw [hg]; exact (below_size belowNow) : w.heap.size ≤ gb198)); have n5_ := n4_; have n6_ := Aside0.mk ((by rw [hg]; exact Nat.ne_of_lt (blk_lt (g := gb197) (o := .cells #[.int .i64 0, .int .i64 1, .int .i64 0, .int .i64 0, .int .i64 0, .slice none 0 0] 35 (0, 0)) (by (with_reducible repeat (first | refine blk_drewN ?_ _ | refine blk_drew ?_ | refine blk_alloc ?_ _)); refine Far.put6_ #[.int .i64 0, .int .i64 0, .int .i64 0, .int .i64 0, .int .i64 0, .slice none 0 0] rfl ?_; (with_reducible repeat (first | refine blk_drewN ?_ _ | refine blk_drew ?_ | refine blk_alloc ?_ _)); exact BK197.out)) : gb197 ≠ gb198)); have n7_ := Aside0.mk ((by rw [hg]; exact Nat.ne_of_gt (blk_lt (g := gb197) (o := .cells #[.int .i64 0, .int .i64 1, .int .i64 0, .int .i64 0, .int .i64 0, .slice none 0 0] 35 (0, 0)) (by (with_reducible repeat (first | refine blk_drewN ?_ _ | refine blk_drew ?_ | refine blk_alloc ?_ _)); refine Far.put6_ #[.int .i64 0, .int .i64 0, .int .i64 0, .int .i64 0, .int .i64 0, .slice none 0 0] rfl ?_; (with_reducible repeat (first | refine blk_drewN ?_ _ | refine blk_drew ?_ | refine blk_alloc ?_ _)); exact BK197.out)) : gb198 ≠ gb197)); clear HO196; clear BK197; clear HB; have HO196 := n0_; have BK197 := n1_; have HB := n2_; have BK198 := n3_; have GW198 := n4_; have GE198 := n5_; have NB197_198 := n6_; have NB198_197 := n7_; clear n0_ n1_ n2_ n3_ n4_ n5_ n6_ n7_; clear hb hbox hg; have hnb10 := NB198_197.out; have hnc10 := NB197_198.out; have hcz11_0 : w9.cell? ⟨gb198, 0, none⟩ = some (.int .i64 0) := (blk_cell BK198.out 0).trans rfl; have hcz11_1 : w9.cell? ⟨gb198, 1, none⟩ = some (.int .i64 0) := (blk_cell BK198.out 1).trans rfl; have hcz11_2 : w9.cell? ⟨gb198, 2, none⟩ = some (.int .i64 0) := (blk_cell BK198.out 2).trans rfl; have hcz11_3 : w9.cell? ⟨gb198, 3, none⟩ = some (.int .i64 0) := (blk_cell BK198.out 3).trans rfl; have hcz11_4 : w9.cell? ⟨gb198, 4, none⟩ = some (.int .i64 0) := (blk_cell BK198.out 4).trans rfl; have hcz11_5 : w9.cell? ⟨gb198, 5, none⟩ = some (.slice none 0 0) := (blk_cell BK198.out 5).trans rfl; have hfz11_0 := blk_frozen BK198.out 0; have hfz11_1 := blk_frozen BK198.out 1; have hfz11_2 := blk_frozen BK198.out 2; have hfz11_3 := blk_frozen BK198.out 3; have hfz11_4 := blk_frozen BK198.out 4; have hfz11_5 := blk_frozen BK198.out 5))
    go_loopg [6, 7] k (fun kq v6 v7 w' => ∃ (x6_1 : Int) (x7_1 : Int) (x198000_1 : Int) (x198001_1 : Int) (x198002_1 : Int) (x198003_1 : Int) (x198004_1 : Int) (x198005_1 : List (S44)) (x199000_1 : Int) (x199001_1 : Int) (x199002_1 : Int) (x199003_1 : Int) (x199004_1 : Int) (x199005_1 : List (S44)) (u198005 : Value) (u199005 : Value), v6 = .int .i64 x6_1 ∧ v7 = .int .i64 x7_1 ∧ Aside0 (laws_FnTwice.l0 kq l0 t194 x6_1 x7_1 x198000_1 x198001_1 x198002_1 x198003_1 x198004_1 x198005_1 x199000_1 x199001_1 x199002_1 x199003_1 x199004_1 x199005_1 = some r) ∧ Aside0 (kq ≤ k) ∧ Aside0 (Kd.R k44 44 w' w.heap.size (fun k_ => some k_ ≠ (u198005 : Value).ownBlock ∧ some k_ ≠ (u199005 : Value).ownBlock) v195 t194) ∧ Aside0 (Kd.Q k44 44 w' w.heap.size (fun k_ => some k_ ≠ (v195 : Value).ownBlock ∧ some k_ ≠ (u199005 : Value).ownBlock) u198005 x198005_1) ∧ Aside0 (Kd.Q k44 44 w' w.heap.size (fun k_ => some k_ ≠ (v195 : Value).ownBlock ∧ some k_ ≠ (u198005 : Value).ownBlock) u199005 x199005_1) ∧ Aside0 (w'.heap[gb197]? = some (.cells #[.int .i64 x198000_1, .int .i64 x198001_1, .int .i64 x198002_1, .int .i64 x198003_1, .int .i64 x198004_1, u198005] 35 (0, 0))) ∧ Aside0 (w'.heap[gb198]? = some (.cells #[.int .i64 x199000_1, .int .i64 x199001_1, .int .i64 x199002_1, .int .i64 x199003_1, .int .i64 x199004_1, u199005] 35 (0, 0))) ∧ Aside0 (Below w.heap.size w w'))
    case atStart => exact ⟨(0), (0), (0), (1), (0), (0), (0), (([] : List (S44))), (0), (1), (0), (0), (0), (([] : List (S44))), (.slice none 0 0), (.slice none 0 0), (by first | rfl | (simp; done) | (simp [*]; done)), (by first | rfl | (simp; done) | (simp [*]; done)), H', ⟨Nat.le_refl _⟩, ⟨by (with_reducible repeat (first | apply Kd.R_alloc | apply Kd.R_drewN | apply Kd.R_drew)); exact Kd.R_mono (Far.rfar6_ (fun _ hk => hk.2) (Kd.R_types HO196.out BK198.out (by decide))) (fun _ hk => ⟨(by simp [Value.ownBlock]), (by simp [Value.ownBlock])⟩)⟩, ⟨Kd.Q_of_R (by first | exact Kd.R_nil _ _ _ _ _ | exact Kd.N_nil _ _ _ _ _ | exact Kd.V_nil _ _ _ _ _ | exact Kd.Q_nil _ _ _ _ _ | exact Kd.S_nil _ _ _ _ _)⟩, ⟨Kd.Q_of_R (by first | exact Kd.R_nil _ _ _ _ _ | exact Kd.N_nil _ _ _ _ _ | exact Kd.V_nil _ _ _ _ _ | exact Kd.Q_nil _ _ _ _ _ | exact Kd.S_nil _ _ _ _ _)⟩, ⟨blkFars⟩, ⟨by (with_reducible repeat (first | refine blk_drewN ?_ _ | refine blk_drew ?_ | refine blk_alloc ?_ _)); refine Far.put6_ #[.int .i64 0, .int .i64 0, .int .i64 0, .int .i64 0, .int .i64 0, .slice none 0 0] rfl ?_; (with_reducible repeat (first | refine blk_drewN ?_ _ | refine blk_drew ?_ | refine blk_alloc ?_ _)); exact BK198.out⟩, ⟨belowNow⟩⟩
    case round =>
      clear H'
      try clear c1
      try clear p2
      try clear c3
      try clear p6
      try clear c9
      try clear c10
      try clear hcz11_0
      try clear hcz11_1
      try clear hcz11_2
      try clear hcz11_3
      try clear hcz11_4
      try clear hcz11_5
      try clear hcz8_0
      try clear hcz8_1
      try clear hcz8_2
      try clear hcz8_3
      try clear hcz8_4
      try clear hcz8_5
      try clear hfz11_0
      try clear hfz11_1
      try clear hfz11_2
      try clear hfz11_3
      try clear hfz11_4
      try clear hfz11_5
      try clear hfz8_0
      try clear hfz8_1
      try clear hfz8_2
      try clear hfz8_3
      try clear hfz8_4
      try clear hfz8_5
      obtain ⟨x6_1, x7_1, x198000_1, x198001_1, x198002_1, x198003_1, x198004_1, x198005_1, x199000_1, x199001_1, x199002_1, x199003_1, x199004_1, x199005_1, u198005, u199005, rfl, rfl, HA, HK1, HO_3, HO_198005, HO_199005, BK197, BK198, HB⟩ := hrel
      cases gk with
      | zero => exact absurd HA.out (by simp [laws_FnTwice.l0])
      | succ k1 =>
        have H := HA.out
        clear HA
        simp only [laws_FnTwice.l0] at H
        by_cases c12 : x7_1 < (t194.length : Int)
        · rw [if_pos c12] at H
          have c12b0 : decide (x7_1 < (t194.length : Int)) = true := decide_eq_true c12
          clear c12
          by_cases c13 : 0 ≤ x7_1
          · rw [if_pos c13] at H
            have c13b0 : decide (0 ≤ x7_1) = true := decide_eq_true c13
            clear c13
            replace H := Option.bind_eq_some_iff.mp H
            obtain ⟨⟨t200, t201, t202, t203, t204, t205, t208⟩, A140, H⟩ := H
            replace H : ((impl_Put.f k1 x199000_1 x199001_1 x199002_1 x199003_1 x199004_1 x199005_1 ((rd_T44 t194 x7_1).f0) ((rd_T44 t194 x7_1).f1) ((rd_T44 t194 x7_1).f2.f0) ((rd_T44 t194 x7_1).f2.f1) ((rd_T44 t194 x7_1).f2.f2) ((rd_T44 t194 x7_1).f2.f3) ((rd_T44 t194 x7_1).f2.f4) ((rd_T44 t194 x7_1).f2.f5) ((rd_T44 t194 x7_1).f2.f6) ((rd_T44 t194 x7_1).f2.f7) ((rd_T44 t194 x7_1).f2.f8) ((rd_T44 t194 x7_1).f2.f9) ((rd_T44 t194 x7_1).f2.f10) ((rd_T44 t194 x7_1).f2.f11) ((rd_T44 t194 x7_1).f2.f12) ((rd_T44 t194 x7_1).f2.f13) ((rd_T44 t194 x7_1).f2.f14) ((rd_T44 t194 x7_1).f2.f15)).bind fun bt211 => (if t208 = true then (laws_FnTwice.j1 k1 l0 t194 x6_1 x7_1 bt211.2.2.2.2.2.2 (!bt211.2.2.2.2.2.2) t200 t201 t202 t203 t204 t205 bt211.1 bt211.2.1 bt211.2.2.1 bt211.2.2.2.1 bt211.2.2.2.2.1 bt211.2.2.2.2.2.1) else (laws_FnTwice.j1 k1 l0 t194 x6_1 x7_1 bt211.2.2.2.2.2.2 true t200 t201 t202 t203 t204 t205 bt211.1 bt211.2.1 bt211.2.2.1 bt211.2.2.2.1 bt211.2.2.2.2.1 bt211.2.2.2.2.2.1))) = some r := H
            have A14 := Aside0.mk A140
            clear A140
            replace H := Option.bind_eq_some_iff.mp H
            obtain ⟨⟨t211, t212, t213, t214, t215, t216, t219⟩, A150, H⟩ := H
            replace H : (if t208 = true then (laws_FnTwice.j1 k1 l0 t194 x6_1 x7_1 t219 (!t219) t200 t201 t202 t203 t204 t205 t211 t212 t213 t214 t215 t216) else (laws_FnTwice.j1 k1 l0 t194 x6_1 x7_1 t219 true t200 t201 t202 t203 t204 t205 t211 t212 t213 t214 t215 t216)) = some r := H
            have A15 := Aside0.mk A150
            clear A150
            have HC16 := Aside0.mk H
            clear H
            obtain ⟨Ao17, co17, eo17⟩ := Kd.R_slice HO_3.out
            subst eo17
            obtain ⟨Ao18, co18, eo18, _⟩ := Kd.Q_slice HO_198005.out
            subst eo18
            try go_wp2
            have n0_ := Aside0.mk (Kd.R_drew HO_3.out)
            have n1_ := Aside0.mk (Kd.Q_drew HO_198005.out)
            have n2_ := Aside0.mk (Kd.Q_drew HO_199005.out)
            have n3_ := Aside0.mk (blk_drew BK197.out)
            have n4_ := Aside0.mk (blk_drew BK198.out)
            have n5_ := Aside0.mk (below_drew1 HB.out)
            clear HO_3
            clear HO_198005
            clear HO_199005
            clear BK197
            clear BK198
            clear HB
            have HO_3 := n0_
            have HO_198005 := n1_
            have HO_199005 := n2_
            have BK197 := n3_
            have BK198 := n4_
            have HB := n5_
            clear n0_ n1_ n2_ n3_ n4_ n5_
            have p199 : 0 ≤ (x7_1 : Int) := of_decide_eq_true (by first | (with_reducible assumption) | assumption)
            have q199 : x7_1 < (t194.length : Int) := of_decide_eq_true (by first | (with_reducible assumption) | assumption)
            obtain ⟨ad199, e199, hx199_0⟩ := laws_FnTwice.at_ (Kd.R_reads' HO_3.out).2.2 x7_1 p199 q199
            cases e199
            replace p199 := eq_true p199
            replace q199 := eq_true q199
            refine start_ (n := 12) (S := fun w' => w'.heap[gb197]? = some (.cells #[.int .i64 x198000_1, .int .i64 x198001_1, .int .i64 x198002_1, .int .i64 x198003_1, .int .i64 x198004_1, .slice Ao18 x198005_1.length co18] 35 (0, 0)) ∧ laws_FnTwice.Held w' (ad199.add ((x7_1).toNat * 18)) (rd_T44 t194 x7_1)) (ds := []) #[false, false, false, false, false, false, false, false, false, false, false, false] (by kernel_rfl) rfl rfl ⟨BK197.out, hx199_0⟩ (fun hHeld => ?_); refine with_tabW laws_FnTwice.tab10 laws_FnTwice.bits10 (fun HT_ HW_ => ?_)
            generalize wr.drew = w19 at HO_3 HO_198005 HO_199005 BK197 BK198 HB hx199_0 hHeld ⊢
            refine pure_ (i := 1) (N := some 34) (v := ?_) (a' := ?_) #[false, true, false, false, false, false, false, false, false, false, false, false] rfl rfl (any_of HT_.out (by kernel_rfl)) (fun _ _ _ h => h) (Or.inl ⟨by rfl, ?_⟩) ?_ ?_
            rotate_left
            · intro w'
              go_simp
              with_reducible rfl
            rotate_left
            · simp only [Act.put, List.setIfInBounds_toArray, List.set_cons_zero, List.set_cons_succ, i64_w, i32_w]
              rfl
            refine pure_ (i := 2) (N := some 35) (v := ?_) (a' := ?_) #[false, true, true, false, false, false, false, false, false, false, false, false] rfl rfl (any_of HT_.out (by kernel_rfl)) (fun _ _ _ h => h) (Or.inl ⟨by rfl, ?_⟩) ?_ ?_
            rotate_left
            · intro w'
              go_simp
              with_reducible rfl
            rotate_left
            · simp only [Act.put, List.setIfInBounds_toArray, List.set_cons_zero, List.set_cons_succ, i64_w, i32_w]
              rfl
            refine pure_ (i := 3) (N := some 36) (v := ?_) (a' := ?_) #[false, true, true, true, false, false, false, false, false, false, false, false] rfl rfl (any_of HT_.out (by kernel_rfl)) (fun _ _ _ h => h) (Or.inl ⟨by rfl, ?_⟩) ?_ ?_
            rotate_left
            · intro w'
              go_simp
              with_reducible rfl
            rotate_left
            · simp only [Act.put, List.setIfInBounds_toArray, List.set_cons_zero, List.set_cons_succ, i64_w, i32_w]
              rfl
            refine take_ (i := 0) (N := some 33) (v := ?_) (a' := ?_) #[true, true, true, true, false, false, false, false, false, false, false, false] rfl rfl (take_ofW HT_.out HW_.out (by kernel_rfl)) (fun _ _ _ h => h) (Or.inl ⟨by rfl, ?_⟩) hHeld ?_ ?_
            rotate_left
            · rintro w' ⟨s0, s1⟩
              first | (refine Arl.loads (x := ?_) (ad := (ad199.add ((x7_1).toNat * 18))) (S := fun W => laws_FnTwice.Held W (ad199.add ((x7_1).toNat * 18)) (rd_T44 t194 x7_1)) (cl := laws_FnTwice.E (rd_T44 t194 x7_1)) ?_ ?_ (fun W hS => hS) Try.underlying44 rfl ?_ w' s1; rotate_left; rfl; rfl; kernel_rfl) | (refine laws_FnTwice.lb (x := ?_) ?_ ?_ s0 Try.underlying35 rfl ?_; rotate_left; rfl; rfl; kernel_rfl) | (have c0_0 := (blk_cell s0 0).trans rfl; have c0_1 := (blk_cell s0 1).trans rfl; have c0_2 := (blk_cell s0 2).trans rfl; have c0_3 := (blk_cell s0 3).trans rfl; have c0_4 := (blk_cell s0 4).trans rfl; have c0_5 := (blk_cell s0 5).trans rfl; go_simp; with_reducible rfl)
            rotate_left
            · simp only [Act.put, List.setIfInBounds_toArray, List.set_cons_zero, List.set_cons_succ, i64_w, i32_w]
              rfl
            refine take_ (i := 4) (N := some 37) (v := ?_) (a' := ?_) #[true, true, true, true, true, false, false, false, false, false, false, false] rfl rfl (take_ofW HT_.out HW_.out (by kernel_rfl)) (fun _ _ _ h => h) (Or.inl ⟨by rfl, ?_⟩) hHeld ?_ ?_
            rotate_left
            · rintro w' ⟨s0, s1⟩
              first | (refine Arl.loads (x := ?_) (ad := (ad199.add ((x7_1).toNat * 18))) (S := fun W => laws_FnTwice.Held W (ad199.add ((x7_1).toNat * 18)) (rd_T44 t194 x7_1)) (cl := laws_FnTwice.E (rd_T44 t194 x7_1)) ?_ ?_ (fun W hS => hS) Try.underlying44 rfl ?_ w' s1; rotate_left; rfl; rfl; kernel_rfl) | (refine laws_FnTwice.lb (x := ?_) ?_ ?_ s0 Try.underlying35 rfl ?_; rotate_left; rfl; rfl; kernel_rfl) | (have c0_0 := (blk_cell s0 0).trans rfl; have c0_1 := (blk_cell s0 1).trans rfl; have c0_2 := (blk_cell s0 2).trans rfl; have c0_3 := (blk_cell s0 3).trans rfl; have c0_4 := (blk_cell s0 4).trans rfl; have c0_5 := (blk_cell s0 5).trans rfl; go_simp; with_reducible rfl)
            rotate_left
            · simp only [Act.put, List.setIfInBounds_toArray, List.set_cons_zero, List.set_cons_succ, i64_w, i32_w]
              rfl
            refine join_ (σ := Value × Nat) 2 #[true, true, true, true, true, true, true, true, true, true, false, false] (fun s_ => [(38, .tuple #[.agg #[.int .i64 t200, .int .i64 t201, .int .i64 t202, .int .i64 t203, .int .i64 t204, s_.1], .bool t208]), (8, .pointer (some ⟨s_.2, 0, none⟩)), (32, .tuple #[.agg #[.int .i64 t200, .int .i64 t201, .int .i64 t202, .int .i64 t203, .int .i64 t204, s_.1], .bool t208]), (39, .agg #[.int .i64 t200, .int .i64 t201, .int .i64 t202, .int .i64 t203, .int .i64 t204, s_.1]), (40, .bool t208)]) (fun s_ w' => (w'.heap[gb197]? = some (.cells #[.int .i64 x198000_1, .int .i64 x198001_1, .int .i64 x198002_1, .int .i64 x198003_1, .int .i64 x198004_1, .slice Ao18 x198005_1.length co18] 35 (0, 0)) ∧ laws_FnTwice.Held w' (ad199.add ((x7_1).toNat * 18)) (rd_T44 t194 x7_1)) ∧ (Kd.R k44 44 w' w.heap.size (fun k_ => some k_ ≠ (.slice Ao18 x198005_1.length co18 : Value).ownBlock ∧ some k_ ≠ (u199005 : Value).ownBlock ∧ some k_ ≠ (.slice (some ad199) t194.length co17 : Value).ownBlock) s_.1 t205) ∧ (Kd.Q k44 44 w' w.heap.size (fun k_ => some k_ ≠ (s_.1 : Value).ownBlock ∧ some k_ ≠ (u199005 : Value).ownBlock ∧ some k_ ≠ (.slice (some ad199) t194.length co17 : Value).ownBlock) (.slice Ao18 x198005_1.length co18) x198005_1) ∧ (Kd.Q k44 44 w' w.heap.size (fun k_ => some k_ ≠ (s_.1 : Value).ownBlock ∧ some k_ ≠ (.slice Ao18 x198005_1.length co18 : Value).ownBlock ∧ some k_ ≠ (.slice (some ad199) t194.length co17 : Value).ownBlock) u199005 x199005_1) ∧ (Kd.R k44 44 w' w.heap.size (fun k_ => some k_ ≠ (s_.1 : Value).ownBlock ∧ some k_ ≠ (.slice Ao18 x198005_1.length co18 : Value).ownBlock ∧ some k_ ≠ (u199005 : Value).ownBlock) (.slice (some ad199) t194.length co17) t194) ∧ (w'.heap[gb197]? = some (.cells #[.int .i64 x198000_1, .int .i64 x198001_1, .int .i64 x198002_1, .int .i64 x198003_1, .int .i64 x198004_1, .slice Ao18 x198005_1.length co18] 35 (0, 0))) ∧ (w'.heap[gb198]? = some (.cells #[.int .i64 x199000_1, .int .i64 x199001_1, .int .i64 x199002_1, .int .i64 x199003_1, .int .i64 x199004_1, u199005] 35 (0, 0))) ∧ (w'.heap[s_.2]? = some (.cells #[.int .i64 0, .int .i64 0, .int .i64 0, .int .i64 0, .int .i64 0, .slice none 0 0] 35 (0, 0))) ∧ (w.heap.size ≤ s_.2) ∧ (w.heap.size ≤ s_.2) ∧ (gb197 ≠ s_.2) ∧ (s_.2 ≠ gb197) ∧ (gb198 ≠ s_.2) ∧ (s_.2 ≠ gb198) ∧ (Below w.heap.size w w')) ?_ ?_
            rotate_left
            · intro hCont
              refine two_ (i := 5) (j := 9) (Ni := some 38) (Nj := some 8) #[true, true, true, true, true, true, false, false, false, false, false, false] #[true, true, true, true, true, false, false, false, false, true, false, false] rfl rfl rfl rfl (two_of HT_.out (by kernel_rfl)) (by decide) (by decide) (fun K hK => ?_) (fun K hK => ?_)
              · skip
                refine goes_ Try.func26 (by kernel_rfl) rfl #[.agg #[.int .i64 x198000_1, .int .i64 x198001_1, .int .i64 x198002_1, .int .i64 x198003_1, .int .i64 x198004_1, .slice Ao18 x198005_1.length co18], .agg #[.int .i64 ((rd_T44 t194 x7_1).f0), .int .i64 ((rd_T44 t194 x7_1).f1), .int .u8 ((rd_T44 t194 x7_1).f2.f0), .int .u8 ((rd_T44 t194 x7_1).f2.f1), .int .u8 ((rd_T44 t194 x7_1).f2.f2), .int .u8 ((rd_T44 t194 x7_1).f2.f3), .int .u8 ((rd_T44 t194 x7_1).f2.f4), .int .u8 ((rd_T44 t194 x7_1).f2.f5), .int .u8 ((rd_T44 t194 x7_1).f2.f6), .int .u8 ((rd_T44 t194 x7_1).f2.f7), .int .u8 ((rd_T44 t194 x7_1).f2.f8), .int .u8 ((rd_T44 t194 x7_1).f2.f9), .int .u8 ((rd_T44 t194 x7_1).f2.f10), .int .u8 ((rd_T44 t194 x7_1).f2.f11), .int .u8 ((rd_T44 t194 x7_1).f2.f12), .int .u8 ((rd_T44 t194 x7_1).f2.f13), .int .u8 ((rd_T44 t194 x7_1).f2.f14), .int .u8 ((rd_T44 t194 x7_1).f2.f15)]] (by rfl) rfl rfl (by (try simp only [List.map_toArray, List.map_cons, List.map_nil]); first | done | rfl | (simp only [List.length_drop, List.length_take]; rfl)) ?_
                with_reducible refine (impl_Put.calls k1 x198000_1 x198001_1 x198002_1 x198003_1 x198004_1 _ _ x198005_1 ((rd_T44 t194 x7_1).f0) ((rd_T44 t194 x7_1).f1) ((rd_T44 t194 x7_1).f2.f0) ((rd_T44 t194 x7_1).f2.f1) ((rd_T44 t194 x7_1).f2.f2) ((rd_T44 t194 x7_1).f2.f3) ((rd_T44 t194 x7_1).f2.f4) ((rd_T44 t194 x7_1).f2.f5) ((rd_T44 t194 x7_1).f2.f6) ((rd_T44 t194 x7_1).f2.f7) ((rd_T44 t194 x7_1).f2.f8) ((rd_T44 t194 x7_1).f2.f9) ((rd_T44 t194 x7_1).f2.f10) ((rd_T44 t194 x7_1).f2.f11) ((rd_T44 t194 x7_1).f2.f12) ((rd_T44 t194 x7_1).f2.f13) ((rd_T44 t194 x7_1).f2.f14) ((rd_T44 t194 x7_1).f2.f15) t200 t201 t202 t203 t204 t205 t208 _ ?side1 ?side2 A14.out).mono ?_
                (case side1 => repeat (first | exact (Kd.Q_reads' HO_198005.out).2.2 | (with_reducible refine Kd.C_alloc ?_ _) | (with_reducible refine Kd.C_drewN ?_ _) | (with_reducible refine Kd.C_drew ?_)))
                (case side2 => exact (Kd.Q_reads' HO_198005.out).2.1)
                rintro e w20 ⟨v206, rfl, ho0, hb⟩
                have HS6_ := laws_FnTwice.Held_b hb rfl (hHeld.2)
                refine ⟨_, rfl, ?_⟩
                have n0_ := Aside0.mk (Kd.R_elder' (by (with_reducible repeat (first | apply Kd.R_alloc | apply Kd.R_drewN | apply Kd.R_drew)); exact HO_3.out) (Kd.R_base ho0) hb)
                have n1_ := Aside0.mk (Kd.Q_elder' (by (with_reducible repeat (first | apply Kd.Q_alloc | apply Kd.Q_drewN | apply Kd.Q_drew)); exact HO_198005.out) (Kd.R_base ho0) hb)
                have n2_ := Aside0.mk (Kd.Q_elder' (by (with_reducible repeat (first | apply Kd.Q_alloc | apply Kd.Q_drewN | apply Kd.Q_drew)); exact HO_199005.out) (Kd.R_base ho0) hb)
                have n3_ := Aside0.mk (Kd.R_lower (Kd.R_new' (Kd.R_new' (Kd.R_new' ho0 (Kd.R_lt (by (with_reducible repeat (first | apply Kd.R_alloc | apply Kd.R_drewN | apply Kd.R_drew)); exact HO_3.out))) (Kd.Q_lt (by (with_reducible repeat (first | apply Kd.Q_alloc | apply Kd.Q_drewN | apply Kd.Q_drew)); exact HO_198005.out))) (Kd.Q_lt (by (with_reducible repeat (first | apply Kd.Q_alloc | apply Kd.Q_drewN | apply Kd.Q_drew)); exact HO_199005.out))) (below_size belowNow))
                have n4_ := Aside0.mk (blkStep (g := gb197) hb)
                have n5_ := Aside0.mk (blkStep (g := gb198) hb)
                have n6_ := Aside0.mk (below_step belowNow hb)
                clear HO_3
                clear HO_198005
                clear HO_199005
                clear BK197
                clear BK198
                clear HB
                have HO_3 := n0_
                have HO_198005 := n1_
                have HO_199005 := n2_
                have HO207 := n3_
                have BK197 := n4_
                have BK198 := n5_
                have HB := n6_
                clear n0_ n1_ n2_ n3_ n4_ n5_ n6_
                (try clear hb)
                (try clear hb2)
                (try clear hk)
                (try clear hi)
                (try clear ho0)
                refine hK.out _ _ ⟨BK197.out, HS6_⟩ (fun hHeld => ?_)
                clear hK K
                refine norm_ (a' := ?_) ?_ ?_
                rotate_left
                · show Act.put _ (some 38) _ = _
                  simp only [Act.put, List.setIfInBounds_toArray, List.set_cons_zero, List.set_cons_succ, i64_w, i32_w]
                  rfl
                refine pure_ (i := 6) (N := some 32) (v := ?_) (a' := ?_) #[true, true, true, true, true, true, true, false, false, false, false, false] rfl rfl (any_of HT_.out (by kernel_rfl)) (fun _ _ _ h => h) (Or.inl ⟨by rfl, ?_⟩) ?_ ?_
                rotate_left
                · intro w'
                  go_simp
                  with_reducible rfl
                rotate_left
                · simp only [Act.put, List.setIfInBounds_toArray, List.set_cons_zero, List.set_cons_succ, i64_w, i32_w]
                  rfl
                refine pure_ (i := 7) (N := some 39) (v := ?_) (a' := ?_) #[true, true, true, true, true, true, true, true, false, false, false, false] rfl rfl (any_of HT_.out (by kernel_rfl)) (fun _ _ _ h => h) (Or.inl ⟨by rfl, ?_⟩) ?_ ?_
                rotate_left
                · intro w'
                  go_simp
                  with_reducible rfl
                rotate_left
                · simp only [Act.put, List.setIfInBounds_toArray, List.set_cons_zero, List.set_cons_succ, i64_w, i32_w]
                  rfl
                refine pure_ (i := 8) (N := some 40) (v := ?_) (a' := ?_) #[true, true, true, true, true, true, true, true, true, false, false, false] rfl rfl (any_of HT_.out (by kernel_rfl)) (fun _ _ _ h => h) (Or.inl ⟨by rfl, ?_⟩) ?_ ?_
                rotate_left
                · intro w'
                  go_simp
                  with_reducible rfl
                rotate_left
                · simp only [Act.put, List.setIfInBounds_toArray, List.set_cons_zero, List.set_cons_succ, i64_w, i32_w]
                  rfl
                refine one_ (i := 9) (N := some 8) #[true, true, true, true, true, true, true, true, true, true, false, false] rfl rfl (one_of HT_.out (by kernel_rfl)) (by decide) (fun K hK => ?_)
                refine box_step ?hg (N := 8) ?hd (cs := #[.int .i64 0, .int .i64 0, .int .i64 0, .int .i64 0, .int .i64 0, .slice none 0 0]) (t := 35) ?hr ?_; (case hd => rfl); (case hg => rfl); (case hr => first | (go_simp; done) | (go_simp; rfl))
                intro gb209 hg w21 hbox hb
                have HS6_ := laws_FnTwice.Held_b hb rfl (hHeld.2)
                have n0_ := Aside0.mk (Kd.R_below (by (with_reducible repeat (first | apply Kd.R_alloc | apply Kd.R_drewN | apply Kd.R_drew)); exact HO_3.out) hb)
                have n1_ := Aside0.mk (Kd.Q_below (by (with_reducible repeat (first | apply Kd.Q_alloc | apply Kd.Q_drewN | apply Kd.Q_drew)); exact HO_198005.out) hb)
                have n2_ := Aside0.mk (Kd.Q_below (by (with_reducible repeat (first | apply Kd.Q_alloc | apply Kd.Q_drewN | apply Kd.Q_drew)); exact HO_199005.out) hb)
                have n3_ := Aside0.mk (Kd.R_below (by (with_reducible repeat (first | apply Kd.R_alloc | apply Kd.R_drewN | apply Kd.R_drew)); exact HO207.out) hb)
                have n4_ := Aside0.mk (blkStep (g := gb197) hb)
                have n5_ := Aside0.mk (blkStep (g := gb198) hb)
                have n6_ := Aside0.mk (below_step belowNow hb)
                have n7_ := Aside0.mk (hbox)
                have n8_ := Aside0.mk ((by rw [hg]; exact (below_size belowNow) : w.heap.size ≤ gb209))
                have n9_ := Aside0.mk ((by rw [hg]; exact (below_size belowNow) : w.heap.size ≤ gb209))
                have n10_ := Aside0.mk ((by rw [hg]; exact Nat.ne_of_lt (blkLt (g := gb197)) : gb197 ≠ gb209))
                have n11_ := Aside0.mk ((by rw [hg]; exact Nat.ne_of_gt (blkLt (g := gb197)) : gb209 ≠ gb197))
                have n12_ := Aside0.mk ((by rw [hg]; exact Nat.ne_of_lt (blkLt (g := gb198)) : gb198 ≠ gb209))
                have n13_ := Aside0.mk ((by rw [hg]; exact Nat.ne_of_gt (blkLt (g := gb198)) : gb209 ≠ gb198))
                clear HO_3
                clear HO_198005
                clear HO_199005
                clear HO207
                clear BK197
                clear BK198
                clear HB
                have HO_3 := n0_
                have HO_198005 := n1_
                have HO_199005 := n2_
                have HO207 := n3_
                have BK197 := n4_
                have BK198 := n5_
                have HB := n6_
                have BK209 := n7_
                have GW209 := n8_
                have GE209 := n9_
                have NB197_209 := n10_
                have NB209_197 := n11_
                have NB198_209 := n12_
                have NB209_198 := n13_
                clear n0_ n1_ n2_ n3_ n4_ n5_ n6_ n7_ n8_ n9_ n10_ n11_ n12_ n13_
                clear hb hbox hg
                refine hK.out _ _ ⟨BK197.out, HS6_⟩ (fun hHeld => ?_)
                clear hK K
                refine norm_ (a' := ?_) ?_ ?_
                rotate_left
                · show Act.put _ (some 8) _ = _
                  simp only [Act.put, List.setIfInBounds_toArray, List.set_cons_zero, List.set_cons_succ, i64_w, i32_w]
                  rfl
                exact norm_ (by simp only [putAll, Act.put, List.setIfInBounds_toArray, List.set_cons_zero, List.set_cons_succ]) (hCont (v206, gb209) _ ⟨hHeld, (by (with_reducible repeat (first | apply Kd.R_alloc | apply Kd.R_drewN | apply Kd.R_drew)); exact Kd.R_mono HO207.out (fun _ hk => ⟨hk.1.2, ⟨hk.2, hk.1.1.2⟩⟩)), (by (with_reducible repeat (first | apply Kd.Q_alloc | apply Kd.Q_drewN | apply Kd.Q_drew)); exact Kd.Q_mono HO_198005.out (fun _ hk => ⟨hk.2, ⟨hk.1.2, hk.1.1⟩⟩)), (by (with_reducible repeat (first | apply Kd.Q_alloc | apply Kd.Q_drewN | apply Kd.Q_drew)); exact Kd.Q_mono HO_199005.out (fun _ hk => ⟨hk.2, ⟨hk.1.2, hk.1.1⟩⟩)), (by (with_reducible repeat (first | apply Kd.R_alloc | apply Kd.R_drewN | apply Kd.R_drew)); exact Kd.R_mono HO_3.out (fun _ hk => ⟨hk.2, ⟨hk.1.1, hk.1.2⟩⟩)), blkNow, blkNow, blkNow, GW209.out, GE209.out, NB197_209.out, NB209_197.out, NB198_209.out, NB209_198.out, belowNow⟩)
              · skip
                refine box_step ?hg (N := 8) ?hd (cs := #[.int .i64 0, .int .i64 0, .int .i64 0, .int .i64 0, .int .i64 0, .slice none 0 0]) (t := 35) ?hr ?_; (case hd => rfl); (case hg => rfl); (case hr => first | (go_simp; done) | (go_simp; rfl))
                intro gb209 hg w20 hbox hb
                have HS6_ := laws_FnTwice.Held_b hb rfl (hHeld.2)
                have n0_ := Aside0.mk (Kd.R_below (by (with_reducible repeat (first | apply Kd.R_alloc | apply Kd.R_drewN | apply Kd.R_drew)); exact HO_3.out) hb)
                have n1_ := Aside0.mk (Kd.Q_below (by (with_reducible repeat (first | apply Kd.Q_alloc | apply Kd.Q_drewN | apply Kd.Q_drew)); exact HO_198005.out) hb)
                have n2_ := Aside0.mk (Kd.Q_below (by (with_reducible repeat (first | apply Kd.Q_alloc | apply Kd.Q_drewN | apply Kd.Q_drew)); exact HO_199005.out) hb)
                have n3_ := Aside0.mk (blkStep (g := gb197) hb)
                have n4_ := Aside0.mk (blkStep (g := gb198) hb)
                have n5_ := Aside0.mk (below_step belowNow hb)
                have n6_ := Aside0.mk (hbox)
                have n7_ := Aside0.mk ((by rw [hg]; exact (below_size belowNow) : w.heap.size ≤ gb209))
                have n8_ := Aside0.mk ((by rw [hg]; exact (below_size belowNow) : w.heap.size ≤ gb209))
                have n9_ := Aside0.mk ((by rw [hg]; exact Nat.ne_of_lt (blkLt (g := gb197)) : gb197 ≠ gb209))
                have n10_ := Aside0.mk ((by rw [hg]; exact Nat.ne_of_gt (blkLt (g := gb197)) : gb209 ≠ gb197))
                have n11_ := Aside0.mk ((by rw [hg]; exact Nat.ne_of_lt (blkLt (g := gb198)) : gb198 ≠ gb209))
                have n12_ := Aside0.mk ((by rw [hg]; exact Nat.ne_of_gt (blkLt (g := gb198)) : gb209 ≠ gb198))
                clear HO_3
                clear HO_198005
                clear HO_199005
                clear BK197
                clear BK198
                clear HB
                have HO_3 := n0_
                have HO_198005 := n1_
                have HO_199005 := n2_
                have BK197 := n3_
                have BK198 := n4_
                have HB := n5_
                have BK209 := n6_
                have GW209 := n7_
                have GE209 := n8_
                have NB197_209 := n9_
                have NB209_197 := n10_
                have NB198_209 := n11_
                have NB209_198 := n12_
                clear n0_ n1_ n2_ n3_ n4_ n5_ n6_ n7_ n8_ n9_ n10_ n11_ n12_
                clear hb hbox hg
                refine hK.out _ _ ⟨BK197.out, HS6_⟩ (fun hHeld => ?_)
                clear hK K
                refine norm_ (a' := ?_) ?_ ?_
                rotate_left
                · show Act.put _ (some 8) _ = _
                  simp only [Act.put, List.setIfInBounds_toArray, List.set_cons_zero, List.set_cons_succ, i64_w, i32_w]
                  rfl
                refine one_ (i := 5) (N := some 38) #[true, true, true, true, true, true, false, false, false, true, false, false] rfl rfl (one_of HT_.out (by kernel_rfl)) (by decide) (fun K hK => ?_)
                refine goes_ Try.func26 (by kernel_rfl) rfl #[.agg #[.int .i64 x198000_1, .int .i64 x198001_1, .int .i64 x198002_1, .int .i64 x198003_1, .int .i64 x198004_1, .slice Ao18 x198005_1.length co18], .agg #[.int .i64 ((rd_T44 t194 x7_1).f0), .int .i64 ((rd_T44 t194 x7_1).f1), .int .u8 ((rd_T44 t194 x7_1).f2.f0), .int .u8 ((rd_T44 t194 x7_1).f2.f1), .int .u8 ((rd_T44 t194 x7_1).f2.f2), .int .u8 ((rd_T44 t194 x7_1).f2.f3), .int .u8 ((rd_T44 t194 x7_1).f2.f4), .int .u8 ((rd_T44 t194 x7_1).f2.f5), .int .u8 ((rd_T44 t194 x7_1).f2.f6), .int .u8 ((rd_T44 t194 x7_1).f2.f7), .int .u8 ((rd_T44 t194 x7_1).f2.f8), .int .u8 ((rd_T44 t194 x7_1).f2.f9), .int .u8 ((rd_T44 t194 x7_1).f2.f10), .int .u8 ((rd_T44 t194 x7_1).f2.f11), .int .u8 ((rd_T44 t194 x7_1).f2.f12), .int .u8 ((rd_T44 t194 x7_1).f2.f13), .int .u8 ((rd_T44 t194 x7_1).f2.f14), .int .u8 ((rd_T44 t194 x7_1).f2.f15)]] (by rfl) rfl rfl (by (try simp only [List.map_toArray, List.map_cons, List.map_nil]); first | done | rfl | (simp only [List.length_drop, List.length_take]; rfl)) ?_
                with_reducible refine (impl_Put.calls k1 x198000_1 x198001_1 x198002_1 x198003_1 x198004_1 _ _ x198005_1 ((rd_T44 t194 x7_1).f0) ((rd_T44 t194 x7_1).f1) ((rd_T44 t194 x7_1).f2.f0) ((rd_T44 t194 x7_1).f2.f1) ((rd_T44 t194 x7_1).f2.f2) ((rd_T44 t194 x7_1).f2.f3) ((rd_T44 t194 x7_1).f2.f4) ((rd_T44 t194 x7_1).f2.f5) ((rd_T44 t194 x7_1).f2.f6) ((rd_T44 t194 x7_1).f2.f7) ((rd_T44 t194 x7_1).f2.f8) ((rd_T44 t194 x7_1).f2.f9) ((rd_T44 t194 x7_1).f2.f10) ((rd_T44 t194 x7_1).f2.f11) ((rd_T44 t194 x7_1).f2.f12) ((rd_T44 t194 x7_1).f2.f13) ((rd_T44 t194 x7_1).f2.f14) ((rd_T44 t194 x7_1).f2.f15) t200 t201 t202 t203 t204 t205 t208 _ ?side1 ?side2 A14.out).mono ?_
                (case side1 => repeat (first | exact (Kd.Q_reads' HO_198005.out).2.2 | (with_reducible refine Kd.C_alloc ?_ _) | (with_reducible refine Kd.C_drewN ?_ _) | (with_reducible refine Kd.C_drew ?_)))
                (case side2 => exact (Kd.Q_reads' HO_198005.out).2.1)
                rintro e w21 ⟨v206, rfl, ho0, hb⟩
                have HS6_ := laws_FnTwice.Held_b hb rfl (hHeld.2)
                refine ⟨_, rfl, ?_⟩
                have n0_ := Aside0.mk (Kd.R_elder' (by (with_reducible repeat (first | apply Kd.R_alloc | apply Kd.R_drewN | apply Kd.R_drew)); exact HO_3.out) (Kd.R_base ho0) hb)
                have n1_ := Aside0.mk (Kd.Q_elder' (by (with_reducible repeat (first | apply Kd.Q_alloc | apply Kd.Q_drewN | apply Kd.Q_drew)); exact HO_198005.out) (Kd.R_base ho0) hb)
                have n2_ := Aside0.mk (Kd.Q_elder' (by (with_reducible repeat (first | apply Kd.Q_alloc | apply Kd.Q_drewN | apply Kd.Q_drew)); exact HO_199005.out) (Kd.R_base ho0) hb)
                have n3_ := Aside0.mk (Kd.R_lower (Kd.R_new' (Kd.R_new' (Kd.R_new' ho0 (Kd.R_lt (by (with_reducible repeat (first | apply Kd.R_alloc | apply Kd.R_drewN | apply Kd.R_drew)); exact HO_3.out))) (Kd.Q_lt (by (with_reducible repeat (first | apply Kd.Q_alloc | apply Kd.Q_drewN | apply Kd.Q_drew)); exact HO_198005.out))) (Kd.Q_lt (by (with_reducible repeat (first | apply Kd.Q_alloc | apply Kd.Q_drewN | apply Kd.Q_drew)); exact HO_199005.out))) (below_size belowNow))
                have n4_ := Aside0.mk (blkStep (g := gb197) hb)
                have n5_ := Aside0.mk (blkStep (g := gb198) hb)
                have n6_ := Aside0.mk (blkStep (g := gb209) hb)
                have n7_ := Aside0.mk (below_step belowNow hb)
                clear HO_3
                clear HO_198005
                clear HO_199005
                clear BK197
                clear BK198
                clear BK209
                clear HB
                have HO_3 := n0_
                have HO_198005 := n1_
                have HO_199005 := n2_
                have HO207 := n3_
                have BK197 := n4_
                have BK198 := n5_
                have BK209 := n6_
                have HB := n7_
                clear n0_ n1_ n2_ n3_ n4_ n5_ n6_ n7_
                (try clear hb)
                (try clear hb2)
                (try clear hk)
                (try clear hi)
                (try clear ho0)
                refine hK.out _ _ ⟨BK197.out, HS6_⟩ (fun hHeld => ?_)
                clear hK K
                refine norm_ (a' := ?_) ?_ ?_
                rotate_left
                · show Act.put _ (some 38) _ = _
                  simp only [Act.put, List.setIfInBounds_toArray, List.set_cons_zero, List.set_cons_succ, i64_w, i32_w]
                  rfl
                refine pure_ (i := 6) (N := some 32) (v := ?_) (a' := ?_) #[true, true, true, true, true, true, true, false, false, true, false, false] rfl rfl (any_of HT_.out (by kernel_rfl)) (fun _ _ _ h => h) (Or.inl ⟨by rfl, ?_⟩) ?_ ?_
                rotate_left
                · intro w'
                  go_simp
                  with_reducible rfl
                rotate_left
                · simp only [Act.put, List.setIfInBounds_toArray, List.set_cons_zero, List.set_cons_succ, i64_w, i32_w]
                  rfl
                refine pure_ (i := 7) (N := some 39) (v := ?_) (a' := ?_) #[true, true, true, true, true, true, true, true, false, true, false, false] rfl rfl (any_of HT_.out (by kernel_rfl)) (fun _ _ _ h => h) (Or.inl ⟨by rfl, ?_⟩) ?_ ?_
                rotate_left
                · intro w'
                  go_simp
                  with_reducible rfl
                rotate_left
                · simp only [Act.put, List.setIfInBounds_toArray, List.set_cons_zero, List.set_cons_succ, i64_w, i32_w]
                  rfl
                refine pure_ (i := 8) (N := some 40) (v := ?_) (a' := ?_) #[true, true, true, true, true, true, true, true, true, true, false, false] rfl rfl (any_of HT_.out (by kernel_rfl)) (fun _ _ _ h => h) (Or.inl ⟨by rfl, ?_⟩) ?_ ?_
                rotate_left
                · intro w'
                  go_simp
                  with_reducible rfl
                rotate_left
                · simp only [Act.put, List.setIfInBounds_toArray, List.set_cons_zero, List.set_cons_succ, i64_w, i32_w]
                  rfl
                exact norm_ (by simp only [putAll, Act.put, List.setIfInBounds_toArray, List.set_cons_zero, List.set_cons_succ]) (hCont (v206, gb209) _ ⟨hHeld, (by (with_reducible repeat (first | apply Kd.R_alloc | apply Kd.R_drewN | apply Kd.R_drew)); exact Kd.R_mono HO207.out (fun _ hk => ⟨hk.1.2, ⟨hk.2, hk.1.1.2⟩⟩)), (by (with_reducible repeat (first | apply Kd.Q_alloc | apply Kd.Q_drewN | apply Kd.Q_drew)); exact Kd.Q_mono HO_198005.out (fun _ hk => ⟨hk.2, ⟨hk.1.2, hk.1.1⟩⟩)), (by (with_reducible repeat (first | apply Kd.Q_alloc | apply Kd.Q_drewN | apply Kd.Q_drew)); exact Kd.Q_mono HO_199005.out (fun _ hk => ⟨hk.2, ⟨hk.1.2, hk.1.1⟩⟩)), (by (with_reducible repeat (first | apply Kd.R_alloc | apply Kd.R_drewN | apply Kd.R_drew)); exact Kd.R_mono HO_3.out (fun _ hk => ⟨hk.2, ⟨hk.1.1, hk.1.2⟩⟩)), blkNow, blkNow, blkNow, GW209.out, GE209.out, NB197_209.out, NB209_197.out, NB198_209.out, NB209_198.out, belowNow⟩)
            rintro ⟨v206, gb209⟩ w22 ⟨hS_, h0_, h1_, h2_, h3_, h4_, h5_, h6_, h7_, h8_, h9_, h10_, h11_, h12_, h13_⟩
            have n0_ : Aside0 (Kd.R k44 44 w22 w.heap.size (fun k_ => some k_ ≠ (.slice Ao18 x198005_1.length co18 : Value).ownBlock ∧ some k_ ≠ (u199005 : Value).ownBlock ∧ some k_ ≠ (.slice (some ad199) t194.length co17 : Value).ownBlock) v206 t205) := ⟨h0_⟩
            have n1_ : Aside0 (Kd.Q k44 44 w22 w.heap.size (fun k_ => some k_ ≠ (v206 : Value).ownBlock ∧ some k_ ≠ (u199005 : Value).ownBlock ∧ some k_ ≠ (.slice (some ad199) t194.length co17 : Value).ownBlock) (.slice Ao18 x198005_1.length co18) x198005_1) := ⟨h1_⟩
            have n2_ : Aside0 (Kd.Q k44 44 w22 w.heap.size (fun k_ => some k_ ≠ (v206 : Value).ownBlock ∧ some k_ ≠ (.slice Ao18 x198005_1.length co18 : Value).ownBlock ∧ some k_ ≠ (.slice (some ad199) t194.length co17 : Value).ownBlock) u199005 x199005_1) := ⟨h2_⟩
            have n3_ : Aside0 (Kd.R k44 44 w22 w.heap.size (fun k_ => some k_ ≠ (v206 : Value).ownBlock ∧ some k_ ≠ (.slice Ao18 x198005_1.length co18 : Value).ownBlock ∧ some k_ ≠ (u199005 : Value).ownBlock) (.slice (some ad199) t194.length co17) t194) := ⟨h3_⟩
            have n4_ : Aside0 (w22.heap[gb197]? = some (.cells #[.int .i64 x198000_1, .int .i64 x198001_1, .int .i64 x198002_1, .int .i64 x198003_1, .int .i64 x198004_1, .slice Ao18 x198005_1.length co18] 35 (0, 0))) := ⟨h4_⟩
            have n5_ : Aside0 (w22.heap[gb198]? = some (.cells #[.int .i64 x199000_1, .int .i64 x199001_1, .int .i64 x199002_1, .int .i64 x199003_1, .int .i64 x199004_1, u199005] 35 (0, 0))) := ⟨h5_⟩
            have n6_ : Aside0 (w22.heap[gb209]? = some (.cells #[.int .i64 0, .int .i64 0, .int .i64 0, .int .i64 0, .int .i64 0, .slice none 0 0] 35 (0, 0))) := ⟨h6_⟩
            have n7_ : Aside0 (w.heap.size ≤ gb209) := ⟨h7_⟩
            have n8_ : Aside0 (w.heap.size ≤ gb209) := ⟨h8_⟩
            have n9_ : Aside0 (gb197 ≠ gb209) := ⟨h9_⟩
            have n10_ : Aside0 (gb209 ≠ gb197) := ⟨h10_⟩
            have n11_ : Aside0 (gb198 ≠ gb209) := ⟨h11_⟩
            have n12_ : Aside0 (gb209 ≠ gb198) := ⟨h12_⟩
            have n13_ : Aside0 (Below w.heap.size w w22) := ⟨h13_⟩
            clear HO_3
            clear HO_198005
            clear HO_199005
            clear BK197
            clear BK198
            clear HB
            clear h0_ h1_ h2_ h3_ h4_ h5_ h6_ h7_ h8_ h9_ h10_ h11_ h12_ h13_
            have HO207 := n0_
            have HO_198005 := n1_
            have HO_199005 := n2_
            have HO_3 := n3_
            have BK197 := n4_
            have BK198 := n5_
            have BK209 := n6_
            have GW209 := n7_
            have GE209 := n8_
            have NB197_209 := n9_
            have NB209_197 := n10_
            have NB198_209 := n11_
            have NB209_198 := n12_
            have HB := n13_
            clear n0_ n1_ n2_ n3_ n4_ n5_ n6_ n7_ n8_ n9_ n10_ n11_ n12_ n13_
            have hHeld : w22.heap[gb197]? = some (.cells #[.int .i64 x198000_1, .int .i64 x198001_1, .int .i64 x198002_1, .int .i64 x198003_1, .int .i64 x198004_1, .slice Ao18 x198005_1.length co18] 35 (0, 0)) ∧ laws_FnTwice.Held w22 (ad199.add ((x7_1).toNat * 18)) (rd_T44 t194 x7_1) := hS_
            obtain ⟨Ao28, co28, eo28⟩ := Kd.R_slice HO207.out
            (first | subst eo28 | (injection eo28 with f1_ f2_ f3_; have f4_ := f1_.symm; have f5_ := f3_.symm; clear f1_ f2_ f3_; subst f4_; subst f5_))
            refine norm_ (a' := ?_) ?_ ?_
            rotate_left
            · simp only [putAll, Act.put, List.setIfInBounds_toArray, List.set_cons_zero, List.set_cons_succ]
              rfl
            refine one_ (i := 10) (N := none) #[true, true, true, true, true, true, true, true, true, true, true, false] rfl rfl (one_of HT_.out (by kernel_rfl)) (by decide) (fun K hK => ?_)
            refine skip_ (w1 := ?_) (by rfl) rfl ?_ ?_
            rotate_left
            · refine laws_FnTwice.sb6 (x := ?_) (y := ?_) (T := ?_) (u0 := ?_) (u1 := ?_) (u2 := ?_) (u3 := ?_) (u4 := ?_) (u5 := ?_) ?_ ?_ ?_ (by with_reducible first | exact BK209.out | exact laws_FnTwice.bfar6 NB209_197.out BK209.out | exact laws_FnTwice.bfar6 NB209_198.out BK209.out) (by rfl) ?_ ?_; rotate_left 9; rfl; rfl; rfl; kernel_rfl; simp [Value.oneCell']
            refine laws_FnTwice.let_ (fun wq0 hwq0 => ?_)
            refine hK.out _ _ ⟨(by rw [hwq0]; exact (laws_FnTwice.bfar6 NB197_209.out (hHeld.1))), (by rw [hwq0]; exact fun j v hj => (Far.far6_ (Far.ab_ (Kd.own_blk (Kd.R_ne HO_3.out BK209.out (by decide)))) (hHeld.2 j v hj)))⟩ (fun hHeld => ?_)
            clear hK K
            refine pure_ (i := 11) (N := some 9) (v := ?_) (a' := ?_) #[true, true, true, true, true, true, true, true, true, true, true, true] rfl rfl (any_of HT_.out (by kernel_rfl)) (fun _ _ _ h => h) (Or.inl ⟨by rfl, ?_⟩) ?_ ?_
            rotate_left
            · intro w'
              go_simp
              with_reducible rfl
            rotate_left
            · simp only [Act.put, List.setIfInBounds_toArray, List.set_cons_zero, List.set_cons_succ, i64_w, i32_w]
              rfl
            refine done_ (done_of HT_.out (by kernel_rfl)) ?_
            subst hwq0
            obtain ⟨Ao30, co30, eo30, _⟩ := Kd.Q_slice HO_199005.out
            subst eo30
            try go_wp2
            obtain ⟨w31, hw31_⟩ : ∃ w_, w_ = ((((((w22.setCell ⟨gb209, 0, none⟩ (.int .i64 t200)).setCell ⟨gb209, 1, none⟩ (.int .i64 t201)).setCell ⟨gb209, 2, none⟩ (.int .i64 t202)).setCell ⟨gb209, 3, none⟩ (.int .i64 t203)).setCell ⟨gb209, 4, none⟩ (.int .i64 t204)).setCell ⟨gb209, 5, none⟩ (.slice Ao28 t205.length co28)) := ⟨_, rfl⟩
            rw [← hw31_]
            have n0_ : Aside0 (Kd.R k44 44 w31 w.heap.size (fun k_ => some k_ ≠ (.slice Ao18 x198005_1.length co18 : Value).ownBlock ∧ some k_ ≠ (.slice Ao30 x199005_1.length co30 : Value).ownBlock ∧ some k_ ≠ (.slice Ao28 t205.length co28 : Value).ownBlock) (.slice (some ad199) t194.length co17) t194) := ⟨by rw [hw31_]; (with_reducible repeat (first | apply Kd.R_alloc | apply Kd.R_drewN | apply Kd.R_drew)); exact Kd.R_mono (Far.rfar6_ (fun _ hk => hk.2) (Kd.R_types HO_3.out BK209.out (by decide))) (fun _ hk => ⟨hk.1.2.1, ⟨hk.1.2.2, hk.1.1⟩⟩)⟩
            have n1_ : Aside0 (Kd.Q k44 44 w31 w.heap.size (fun k_ => some k_ ≠ (.slice (some ad199) t194.length co17 : Value).ownBlock ∧ some k_ ≠ (.slice Ao30 x199005_1.length co30 : Value).ownBlock ∧ some k_ ≠ (.slice Ao28 t205.length co28 : Value).ownBlock) (.slice Ao18 x198005_1.length co18) x198005_1) := ⟨by rw [hw31_]; (with_reducible repeat (first | apply Kd.Q_alloc | apply Kd.Q_drewN | apply Kd.Q_drew)); exact Kd.Q_mono (Far.qfar6_ (fun _ hk => hk.2) (Kd.Q_types HO_198005.out BK209.out (by decide))) (fun _ hk => ⟨hk.1.2.2, ⟨hk.1.2.1, hk.1.1⟩⟩)⟩
            have n2_ : Aside0 (Kd.Q k44 44 w31 w.heap.size (fun k_ => some k_ ≠ (.slice (some ad199) t194.length co17 : Value).ownBlock ∧ some k_ ≠ (.slice Ao18 x198005_1.length co18 : Value).ownBlock ∧ some k_ ≠ (.slice Ao28 t205.length co28 : Value).ownBlock) (.slice Ao30 x199005_1.length co30) x199005_1) := ⟨by rw [hw31_]; (with_reducible repeat (first | apply Kd.Q_alloc | apply Kd.Q_drewN | apply Kd.Q_drew)); exact Kd.Q_mono (Far.qfar6_ (fun _ hk => hk.2) (Kd.Q_types HO_199005.out BK209.out (by decide))) (fun _ hk => ⟨hk.1.2.2, ⟨hk.1.2.1, hk.1.1⟩⟩)⟩
            have n3_ : Aside0 (Kd.R k44 44 w31 w.heap.size (fun k_ => some k_ ≠ (.slice (some ad199) t194.length co17 : Value).ownBlock ∧ some k_ ≠ (.slice Ao18 x198005_1.length co18 : Value).ownBlock ∧ some k_ ≠ (.slice Ao30 x199005_1.length co30 : Value).ownBlock) (.slice Ao28 t205.length co28) t205) := ⟨by rw [hw31_]; (with_reducible repeat (first | apply Kd.R_alloc | apply Kd.R_drewN | apply Kd.R_drew)); exact Kd.R_mono (Far.rfar6_ (fun _ hk => hk.2) (Kd.R_types HO207.out BK209.out (by decide))) (fun _ hk => ⟨hk.1.2.2, ⟨hk.1.1, hk.1.2.1⟩⟩)⟩
            have n4_ : Aside0 (w31.heap[gb197]? = some (.cells #[.int .i64 x198000_1, .int .i64 x198001_1, .int .i64 x198002_1, .int .i64 x198003_1, .int .i64 x198004_1, .slice Ao18 x198005_1.length co18] 35 (0, 0))) := ⟨by rw [hw31_]; (with_reducible repeat (first | refine blk_drewN ?_ _ | refine blk_drew ?_ | refine blk_alloc ?_ _)); refine blk_far ?_ NB197_209.out _; (with_reducible repeat (first | refine blk_drewN ?_ _ | refine blk_drew ?_ | refine blk_alloc ?_ _)); refine blk_far ?_ NB197_209.out _; (with_reducible repeat (first | refine blk_drewN ?_ _ | refine blk_drew ?_ | refine blk_alloc ?_ _)); refine blk_far ?_ NB197_209.out _; (with_reducible repeat (first | refine blk_drewN ?_ _ | refine blk_drew ?_ | refine blk_alloc ?_ _)); refine blk_far ?_ NB197_209.out _; (with_reducible repeat (first | refine blk_drewN ?_ _ | refine blk_drew ?_ | refine blk_alloc ?_ _)); refine blk_far ?_ NB197_209.out _; (with_reducible repeat (first | refine blk_drewN ?_ _ | refine blk_drew ?_ | refine blk_alloc ?_ _)); refine blk_far ?_ NB197_209.out _; (with_reducible repeat (first | refine blk_drewN ?_ _ | refine blk_drew ?_ | refine blk_alloc ?_ _)); exact BK197.out⟩
            have n5_ : Aside0 (w31.heap[gb198]? = some (.cells #[.int .i64 x199000_1, .int .i64 x199001_1, .int .i64 x199002_1, .int .i64 x199003_1, .int .i64 x199004_1, .slice Ao30 x199005_1.length co30] 35 (0, 0))) := ⟨by rw [hw31_]; (with_reducible repeat (first | refine blk_drewN ?_ _ | refine blk_drew ?_ | refine blk_alloc ?_ _)); refine blk_far ?_ NB198_209.out _; (with_reducible repeat (first | refine blk_drewN ?_ _ | refine blk_drew ?_ | refine blk_alloc ?_ _)); refine blk_far ?_ NB198_209.out _; (with_reducible repeat (first | refine blk_drewN ?_ _ | refine blk_drew ?_ | refine blk_alloc ?_ _)); refine blk_far ?_ NB198_209.out _; (with_reducible repeat (first | refine blk_drewN ?_ _ | refine blk_drew ?_ | refine blk_alloc ?_ _)); refine blk_far ?_ NB198_209.out _; (with_reducible repeat (first | refine blk_drewN ?_ _ | refine blk_drew ?_ | refine blk_alloc ?_ _)); refine blk_far ?_ NB198_209.out _; (with_reducible repeat (first | refine blk_drewN ?_ _ | refine blk_drew ?_ | refine blk_alloc ?_ _)); refine blk_far ?_ NB198_209.out _; (with_reducible repeat (first | refine blk_drewN ?_ _ | refine blk_drew ?_ | refine blk_alloc ?_ _)); exact BK198.out⟩
            have n6_ : Aside0 (w31.heap[gb209]? = some (.cells #[.int .i64 t200, .int .i64 t201, .int .i64 t202, .int .i64 t203, .int .i64 t204, .slice Ao28 t205.length co28] 35 (0, 0))) := ⟨by rw [hw31_]; (with_reducible repeat (first | refine blk_drewN ?_ _ | refine blk_drew ?_ | refine blk_alloc ?_ _)); refine Far.put6_ #[.int .i64 0, .int .i64 0, .int .i64 0, .int .i64 0, .int .i64 0, .slice none 0 0] rfl ?_; (with_reducible repeat (first | refine blk_drewN ?_ _ | refine blk_drew ?_ | refine blk_alloc ?_ _)); exact BK209.out⟩
            have n7_ : Aside0 (Below w.heap.size w w31) := ⟨by rw [hw31_]; repeat (first | (with_reducible first | exact HB.out | apply below_alloc | apply pw_below_drewN | apply below_drew1 | refine below_set ?_ GE197.out | refine below_set ?_ GE198.out | refine below_set ?_ GE209.out) | exact HB.out)⟩
            clear hw31_
            (try clear HO_3)
            (try clear HO_198005)
            (try clear HO_199005)
            (try clear HO207)
            (try clear BK197)
            (try clear BK198)
            (try clear BK209)
            (try clear HB)
            have HO_3 := n0_
            have HO_198005 := n1_
            have HO_199005 := n2_
            have HO207 := n3_
            have BK197 := n4_
            have BK198 := n5_
            have BK209 := n6_
            have HB := n7_
            clear n0_ n1_ n2_ n3_ n4_ n5_ n6_ n7_
            have n0_ := Aside0.mk (Kd.R_drew HO_3.out)
            have n1_ := Aside0.mk (Kd.Q_drew HO_198005.out)
            have n2_ := Aside0.mk (Kd.Q_drew HO_199005.out)
            have n3_ := Aside0.mk (Kd.R_drew HO207.out)
            have n4_ := Aside0.mk (blk_drew BK197.out)
            have n5_ := Aside0.mk (blk_drew BK198.out)
            have n6_ := Aside0.mk (blk_drew BK209.out)
            have n7_ := Aside0.mk (below_drew1 HB.out)
            clear HO_3
            clear HO_198005
            clear HO_199005
            clear HO207
            clear BK197
            clear BK198
            clear BK209
            clear HB
            have HO_3 := n0_
            have HO_198005 := n1_
            have HO_199005 := n2_
            have HO207 := n3_
            have BK197 := n4_
            have BK198 := n5_
            have BK209 := n6_
            have HB := n7_
            clear n0_ n1_ n2_ n3_ n4_ n5_ n6_ n7_
            have p210 : 0 ≤ (x7_1 : Int) := of_decide_eq_true (by first | (with_reducible assumption) | assumption)
            have q210 : x7_1 < (t194.length : Int) := of_decide_eq_true (by first | (with_reducible assumption) | assumption)
            obtain ⟨ad210, e210, hx210_0⟩ := laws_FnTwice.at_ (Kd.R_reads' HO_3.out).2.2 x7_1 p210 q210
            obtain rfl : ad199 = ad210 := (by injection e210)
            replace p210 := eq_true p210
            replace q210 := eq_true q210
            refine start_ (n := 12) (S := fun w' => w'.heap[gb198]? = some (.cells #[.int .i64 x199000_1, .int .i64 x199001_1, .int .i64 x199002_1, .int .i64 x199003_1, .int .i64 x199004_1, .slice Ao30 x199005_1.length co30] 35 (0, 0)) ∧ laws_FnTwice.Held w' (ad199.add ((x7_1).toNat * 18)) (rd_T44 t194 x7_1)) (ds := []) #[false, false, false, false, false, false, false, false, false, false, false, false] (by kernel_rfl) rfl rfl ⟨BK198.out, hx210_0⟩ (fun hHeld => ?_); refine with_tabW laws_FnTwice.tab11 laws_FnTwice.bits11 (fun HT_ HW_ => ?_)
            generalize w31.drew = w32 at HO_3 HO_198005 HO_199005 HO207 BK197 BK198 BK209 HB hx210_0 hHeld ⊢
            refine pure_ (i := 1) (N := some 43) (v := ?_) (a' := ?_) #[false, true, false, false, false, false, false, false, false, false, false, false] rfl rfl (any_of HT_.out (by kernel_rfl)) (fun _ _ _ h => h) (Or.inl ⟨by rfl, ?_⟩) ?_ ?_
            rotate_left
            · intro w'
              go_simp
              with_reducible rfl
            rotate_left
            · simp only [Act.put, List.setIfInBounds_toArray, List.set_cons_zero, List.set_cons_succ, i64_w, i32_w]
              rfl
            refine pure_ (i := 2) (N := some 44) (v := ?_) (a' := ?_) #[false, true, true, false, false, false, false, false, false, false, false, false] rfl rfl (any_of HT_.out (by kernel_rfl)) (fun _ _ _ h => h) (Or.inl ⟨by rfl, ?_⟩) ?_ ?_
            rotate_left
            · intro w'
              go_simp
              with_reducible rfl
            rotate_left
            · simp only [Act.put, List.setIfInBounds_toArray, List.set_cons_zero, List.set_cons_succ, i64_w, i32_w]
              rfl
            refine pure_ (i := 3) (N := some 45) (v := ?_) (a' := ?_) #[false, true, true, true, false, false, false, false, false, false, false, false] rfl rfl (any_of HT_.out (by kernel_rfl)) (fun _ _ _ h => h) (Or.inl ⟨by rfl, ?_⟩) ?_ ?_
            rotate_left
            · intro w'
              go_simp
              with_reducible rfl
            rotate_left
            · simp only [Act.put, List.setIfInBounds_toArray, List.set_cons_zero, List.set_cons_succ, i64_w, i32_w]
              rfl
            refine take_ (i := 0) (N := some 42) (v := ?_) (a' := ?_) #[true, true, true, true, false, false, false, false, false, false, false, false] rfl rfl (take_ofW HT_.out HW_.out (by kernel_rfl)) (fun _ _ _ h => h) (Or.inl ⟨by rfl, ?_⟩) hHeld ?_ ?_
            rotate_left
            · rintro w' ⟨s0, s1⟩
              first | (refine Arl.loads (x := ?_) (ad := (ad199.add ((x7_1).toNat * 18))) (S := fun W => laws_FnTwice.Held W (ad199.add ((x7_1).toNat * 18)) (rd_T44 t194 x7_1)) (cl := laws_FnTwice.E (rd_T44 t194 x7_1)) ?_ ?_ (fun W hS => hS) Try.underlying44 rfl ?_ w' s1; rotate_left; rfl; rfl; kernel_rfl) | (refine laws_FnTwice.lb (x := ?_) ?_ ?_ s0 Try.underlying35 rfl ?_; rotate_left; rfl; rfl; kernel_rfl) | (have c0_0 := (blk_cell s0 0).trans rfl; have c0_1 := (blk_cell s0 1).trans rfl; have c0_2 := (blk_cell s0 2).trans rfl; have c0_3 := (blk_cell s0 3).trans rfl; have c0_4 := (blk_cell s0 4).trans rfl; have c0_5 := (blk_cell s0 5).trans rfl; go_simp; with_reducible rfl)
            rotate_left
            · simp only [Act.put, List.setIfInBounds_toArray, List.set_cons_zero, List.set_cons_succ, i64_w, i32_w]
              rfl
            refine take_ (i := 4) (N := some 46) (v := ?_) (a' := ?_) #[true, true, true, true, true, false, false, false, false, false, false, false] rfl rfl (take_ofW HT_.out HW_.out (by kernel_rfl)) (fun _ _ _ h => h) (Or.inl ⟨by rfl, ?_⟩) hHeld ?_ ?_
            rotate_left
            · rintro w' ⟨s0, s1⟩
              first | (refine Arl.loads (x := ?_) (ad := (ad199.add ((x7_1).toNat * 18))) (S := fun W => laws_FnTwice.Held W (ad199.add ((x7_1).toNat * 18)) (rd_T44 t194 x7_1)) (cl := laws_FnTwice.E (rd_T44 t194 x7_1)) ?_ ?_ (fun W hS => hS) Try.underlying44 rfl ?_ w' s1; rotate_left; rfl; rfl; kernel_rfl) | (refine laws_FnTwice.lb (x := ?_) ?_ ?_ s0 Try.underlying35 rfl ?_; rotate_left; rfl; rfl; kernel_rfl) | (have c0_0 := (blk_cell s0 0).trans rfl; have c0_1 := (blk_cell s0 1).trans rfl; have c0_2 := (blk_cell s0 2).trans rfl; have c0_3 := (blk_cell s0 3).trans rfl; have c0_4 := (blk_cell s0 4).trans rfl; have c0_5 := (blk_cell s0 5).trans rfl; go_simp; with_reducible rfl)
            rotate_left
            · simp only [Act.put, List.setIfInBounds_toArray, List.set_cons_zero, List.set_cons_succ, i64_w, i32_w]
              rfl
            refine join_ (σ := Value × Nat) 2 #[true, true, true, true, true, true, true, true, true, true, false, false] (fun s_ => [(47, .tuple #[.agg #[.int .i64 t211, .int .i64 t212, .int .i64 t213, .int .i64 t214, .int .i64 t215, s_.1], .bool t219]), (10, .pointer (some ⟨s_.2, 0, none⟩)), (41, .tuple #[.agg #[.int .i64 t211, .int .i64 t212, .int .i64 t213, .int .i64 t214, .int .i64 t215, s_.1], .bool t219]), (48, .agg #[.int .i64 t211, .int .i64 t212, .int .i64 t213, .int .i64 t214, .int .i64 t215, s_.1]), (49, .bool t219)]) (fun s_ w' => (w'.heap[gb198]? = some (.cells #[.int .i64 x199000_1, .int .i64 x199001_1, .int .i64 x199002_1, .int .i64 x199003_1, .int .i64 x199004_1, .slice Ao30 x199005_1.length co30] 35 (0, 0)) ∧ laws_FnTwice.Held w' (ad199.add ((x7_1).toNat * 18)) (rd_T44 t194 x7_1)) ∧ (Kd.R k44 44 w' w.heap.size (fun k_ => some k_ ≠ (s_.1 : Value).ownBlock ∧ some k_ ≠ (.slice Ao18 x198005_1.length co18 : Value).ownBlock ∧ some k_ ≠ (.slice Ao30 x199005_1.length co30 : Value).ownBlock ∧ some k_ ≠ (.slice (some ad199) t194.length co17 : Value).ownBlock) (.slice Ao28 t205.length co28) t205) ∧ (Kd.R k44 44 w' w.heap.size (fun k_ => some k_ ≠ (.slice Ao28 t205.length co28 : Value).ownBlock ∧ some k_ ≠ (.slice Ao18 x198005_1.length co18 : Value).ownBlock ∧ some k_ ≠ (.slice Ao30 x199005_1.length co30 : Value).ownBlock ∧ some k_ ≠ (.slice (some ad199) t194.length co17 : Value).ownBlock) s_.1 t216) ∧ (Kd.Q k44 44 w' w.heap.size (fun k_ => some k_ ≠ (.slice Ao28 t205.length co28 : Value).ownBlock ∧ some k_ ≠ (s_.1 : Value).ownBlock ∧ some k_ ≠ (.slice Ao30 x199005_1.length co30 : Value).ownBlock ∧ some k_ ≠ (.slice (some ad199) t194.length co17 : Value).ownBlock) (.slice Ao18 x198005_1.length co18) x198005_1) ∧ (Kd.Q k44 44 w' w.heap.size (fun k_ => some k_ ≠ (.slice Ao28 t205.length co28 : Value).ownBlock ∧ some k_ ≠ (s_.1 : Value).ownBlock ∧ some k_ ≠ (.slice Ao18 x198005_1.length co18 : Value).ownBlock ∧ some k_ ≠ (.slice (some ad199) t194.length co17 : Value).ownBlock) (.slice Ao30 x199005_1.length co30) x199005_1) ∧ (Kd.R k44 44 w' w.heap.size (fun k_ => some k_ ≠ (.slice Ao28 t205.length co28 : Value).ownBlock ∧ some k_ ≠ (s_.1 : Value).ownBlock ∧ some k_ ≠ (.slice Ao18 x198005_1.length co18 : Value).ownBlock ∧ some k_ ≠ (.slice Ao30 x199005_1.length co30 : Value).ownBlock) (.slice (some ad199) t194.length co17) t194) ∧ (w'.heap[gb197]? = some (.cells #[.int .i64 x198000_1, .int .i64 x198001_1, .int .i64 x198002_1, .int .i64 x198003_1, .int .i64 x198004_1, .slice Ao18 x198005_1.length co18] 35 (0, 0))) ∧ (w'.heap[gb198]? = some (.cells #[.int .i64 x199000_1, .int .i64 x199001_1, .int .i64 x199002_1, .int .i64 x199003_1, .int .i64 x199004_1, .slice Ao30 x199005_1.length co30] 35 (0, 0))) ∧ (w'.heap[gb209]? = some (.cells #[.int .i64 t200, .int .i64 t201, .int .i64 t202, .int .i64 t203, .int .i64 t204, .slice Ao28 t205.length co28] 35 (0, 0))) ∧ (w'.heap[s_.2]? = some (.cells #[.int .i64 0, .int .i64 0, .int .i64 0, .int .i64 0, .int .i64 0, .slice none 0 0] 35 (0, 0))) ∧ (w.heap.size ≤ s_.2) ∧ (w.heap.size ≤ s_.2) ∧ (gb197 ≠ s_.2) ∧ (s_.2 ≠ gb197) ∧ (gb198 ≠ s_.2) ∧ (s_.2 ≠ gb198) ∧ (gb209 ≠ s_.2) ∧ (s_.2 ≠ gb209) ∧ (Below w.heap.size w w')) ?_ ?_
            rotate_left
            · intro hCont
              refine two_ (i := 5) (j := 9) (Ni := some 47) (Nj := some 10) #[true, true, true, true, true, true, false, false, false, false, false, false] #[true, true, true, true, true, false, false, false, false, true, false, false] rfl rfl rfl rfl (two_of HT_.out (by kernel_rfl)) (by decide) (by decide) (fun K hK => ?_) (fun K hK => ?_)
              · skip
                refine goes_ Try.func26 (by kernel_rfl) rfl #[.agg #[.int .i64 x199000_1, .int .i64 x199001_1, .int .i64 x199002_1, .int .i64 x199003_1, .int .i64 x199004_1, .slice Ao30 x199005_1.length co30], .agg #[.int .i64 ((rd_T44 t194 x7_1).f0), .int .i64 ((rd_T44 t194 x7_1).f1), .int .u8 ((rd_T44 t194 x7_1).f2.f0), .int .u8 ((rd_T44 t194 x7_1).f2.f1), .int .u8 ((rd_T44 t194 x7_1).f2.f2), .int .u8 ((rd_T44 t194 x7_1).f2.f3), .int .u8 ((rd_T44 t194 x7_1).f2.f4), .int .u8 ((rd_T44 t194 x7_1).f2.f5), .int .u8 ((rd_T44 t194 x7_1).f2.f6), .int .u8 ((rd_T44 t194 x7_1).f2.f7), .int .u8 ((rd_T44 t194 x7_1).f2.f8), .int .u8 ((rd_T44 t194 x7_1).f2.f9), .int .u8 ((rd_T44 t194 x7_1).f2.f10), .int .u8 ((rd_T44 t194 x7_1).f2.f11), .int .u8 ((rd_T44 t194 x7_1).f2.f12), .int .u8 ((rd_T44 t194 x7_1).f2.f13), .int .u8 ((rd_T44 t194 x7_1).f2.f14), .int .u8 ((rd_T44 t194 x7_1).f2.f15)]] (by rfl) rfl rfl (by (try simp only [List.map_toArray, List.map_cons, List.map_nil]); first | done | rfl | (simp only [List.length_drop, List.length_take]; rfl)) ?_
                with_reducible refine (impl_Put.calls k1 x199000_1 x199001_1 x199002_1 x199003_1 x199004_1 _ _ x199005_1 ((rd_T44 t194 x7_1).f0) ((rd_T44 t194 x7_1).f1) ((rd_T44 t194 x7_1).f2.f0) ((rd_T44 t194 x7_1).f2.f1) ((rd_T44 t194 x7_1).f2.f2) ((rd_T44 t194 x7_1).f2.f3) ((rd_T44 t194 x7_1).f2.f4) ((rd_T44 t194 x7_1).f2.f5) ((rd_T44 t194 x7_1).f2.f6) ((rd_T44 t194 x7_1).f2.f7) ((rd_T44 t194 x7_1).f2.f8) ((rd_T44 t194 x7_1).f2.f9) ((rd_T44 t194 x7_1).f2.f10) ((rd_T44 t194 x7_1).f2.f11) ((rd_T44 t194 x7_1).f2.f12) ((rd_T44 t194 x7_1).f2.f13) ((rd_T44 t194 x7_1).f2.f14) ((rd_T44 t194 x7_1).f2.f15) t211 t212 t213 t214 t215 t216 t219 _ ?side1 ?side2 A15.out).mono ?_
                (case side1 => repeat (first | exact (Kd.Q_reads' HO_199005.out).2.2 | (with_reducible refine Kd.C_alloc ?_ _) | (with_reducible refine Kd.C_drewN ?_ _) | (with_reducible refine Kd.C_drew ?_)))
                (case side2 => exact (Kd.Q_reads' HO_199005.out).2.1)
                rintro e w33 ⟨v217, rfl, ho0, hb⟩
                have HS6_ := laws_FnTwice.Held_b hb rfl (hHeld.2)
                refine ⟨_, rfl, ?_⟩
                have n0_ := Aside0.mk (Kd.R_elder' (by (with_reducible repeat (first | apply Kd.R_alloc | apply Kd.R_drewN | apply Kd.R_drew)); exact HO_3.out) (Kd.R_base ho0) hb)
                have n1_ := Aside0.mk (Kd.Q_elder' (by (with_reducible repeat (first | apply Kd.Q_alloc | apply Kd.Q_drewN | apply Kd.Q_drew)); exact HO_198005.out) (Kd.R_base ho0) hb)
                have n2_ := Aside0.mk (Kd.Q_elder' (by (with_reducible repeat (first | apply Kd.Q_alloc | apply Kd.Q_drewN | apply Kd.Q_drew)); exact HO_199005.out) (Kd.R_base ho0) hb)
                have n3_ := Aside0.mk (Kd.R_elder' (by (with_reducible repeat (first | apply Kd.R_alloc | apply Kd.R_drewN | apply Kd.R_drew)); exact HO207.out) (Kd.R_base ho0) hb)
                have n4_ := Aside0.mk (Kd.R_lower (Kd.R_new' (Kd.R_new' (Kd.R_new' (Kd.R_new' ho0 (Kd.R_lt (by (with_reducible repeat (first | apply Kd.R_alloc | apply Kd.R_drewN | apply Kd.R_drew)); exact HO_3.out))) (Kd.Q_lt (by (with_reducible repeat (first | apply Kd.Q_alloc | apply Kd.Q_drewN | apply Kd.Q_drew)); exact HO_198005.out))) (Kd.Q_lt (by (with_reducible repeat (first | apply Kd.Q_alloc | apply Kd.Q_drewN | apply Kd.Q_drew)); exact HO_199005.out))) (Kd.R_lt (by (with_reducible repeat (first | apply Kd.R_alloc | apply Kd.R_drewN | apply Kd.R_drew)); exact HO207.out))) (below_size belowNow))
                have n5_ := Aside0.mk (blkStep (g := gb197) hb)
                have n6_ := Aside0.mk (blkStep (g := gb198) hb)
                have n7_ := Aside0.mk (blkStep (g := gb209) hb)
                have n8_ := Aside0.mk (below_step belowNow hb)
                clear HO_3
                clear HO_198005
                clear HO_199005
                clear HO207
                clear BK197
                clear BK198
                clear BK209
                clear HB
                have HO_3 := n0_
                have HO_198005 := n1_
                have HO_199005 := n2_
                have HO207 := n3_
                have HO218 := n4_
                have BK197 := n5_
                have BK198 := n6_
                have BK209 := n7_
                have HB := n8_
                clear n0_ n1_ n2_ n3_ n4_ n5_ n6_ n7_ n8_
                (try clear hb)
                (try clear hb2)
                (try clear hk)
                (try clear hi)
                (try clear ho0)
                refine hK.out _ _ ⟨BK198.out, HS6_⟩ (fun hHeld => ?_)
                clear hK K
                refine norm_ (a' := ?_) ?_ ?_
                rotate_left
                · show Act.put _ (some 47) _ = _
                  simp only [Act.put, List.setIfInBounds_toArray, List.set_cons_zero, List.set_cons_succ, i64_w, i32_w]
                  rfl
                refine pure_ (i := 6) (N := some 41) (v := ?_) (a' := ?_) #[true, true, true, true, true, true, true, false, false, false, false, false] rfl rfl (any_of HT_.out (by kernel_rfl)) (fun _ _ _ h => h) (Or.inl ⟨by rfl, ?_⟩) ?_ ?_
                rotate_left
                · intro w'
                  go_simp
                  with_reducible rfl
                rotate_left
                · simp only [Act.put, List.setIfInBounds_toArray, List.set_cons_zero, List.set_cons_succ, i64_w, i32_w]
                  rfl
                refine pure_ (i := 7) (N := some 48) (v := ?_) (a' := ?_) #[true, true, true, true, true, true, true, true, false, false, false, false] rfl rfl (any_of HT_.out (by kernel_rfl)) (fun _ _ _ h => h) (Or.inl ⟨by rfl, ?_⟩) ?_ ?_
                rotate_left
                · intro w'
                  go_simp
                  with_reducible rfl
                rotate_left
                · simp only [Act.put, List.setIfInBounds_toArray, List.set_cons_zero, List.set_cons_succ, i64_w, i32_w]
                  rfl
                refine pure_ (i := 8) (N := some 49) (v := ?_) (a' := ?_) #[true, true, true, true, true, true, true, true, true, false, false, false] rfl rfl (any_of HT_.out (by kernel_rfl)) (fun _ _ _ h => h) (Or.inl ⟨by rfl, ?_⟩) ?_ ?_
                rotate_left
                · intro w'
                  go_simp
                  with_reducible rfl
                rotate_left
                · simp only [Act.put, List.setIfInBounds_toArray, List.set_cons_zero, List.set_cons_succ, i64_w, i32_w]
                  rfl
                refine one_ (i := 9) (N := some 10) #[true, true, true, true, true, true, true, true, true, true, false, false] rfl rfl (one_of HT_.out (by kernel_rfl)) (by decide) (fun K hK => ?_)
                refine box_step ?hg (N := 10) ?hd (cs := #[.int .i64 0, .int .i64 0, .int .i64 0, .int .i64 0, .int .i64 0, .slice none 0 0]) (t := 35) ?hr ?_; (case hd => rfl); (case hg => rfl); (case hr => first | (go_simp; done) | (go_simp; rfl))
                intro gb220 hg w34 hbox hb
                have HS6_ := laws_FnTwice.Held_b hb rfl (hHeld.2)
                have n0_ := Aside0.mk (Kd.R_below (by (with_reducible repeat (first | apply Kd.R_alloc | apply Kd.R_drewN | apply Kd.R_drew)); exact HO_3.out) hb)
                have n1_ := Aside0.mk (Kd.Q_below (by (with_reducible repeat (first | apply Kd.Q_alloc | apply Kd.Q_drewN | apply Kd.Q_drew)); exact HO_198005.out) hb)
                have n2_ := Aside0.mk (Kd.Q_below (by (with_reducible repeat (first | apply Kd.Q_alloc | apply Kd.Q_drewN | apply Kd.Q_drew)); exact HO_199005.out) hb)
                have n3_ := Aside0.mk (Kd.R_below (by (with_reducible repeat (first | apply Kd.R_alloc | apply Kd.R_drewN | apply Kd.R_drew)); exact HO207.out) hb)
                have n4_ := Aside0.mk (Kd.R_below (by (with_reducible repeat (first | apply Kd.R_alloc | apply Kd.R_drewN | apply Kd.R_drew)); exact HO218.out) hb)
                have n5_ := Aside0.mk (blkStep (g := gb197) hb)
                have n6_ := Aside0.mk (blkStep (g := gb198) hb)
                have n7_ := Aside0.mk (blkStep (g := gb209) hb)
                have n8_ := Aside0.mk (below_step belowNow hb)
                have n9_ := Aside0.mk (hbox)
                have n10_ := Aside0.mk ((by rw [hg]; exact (below_size belowNow) : w.heap.size ≤ gb220))
                have n11_ := Aside0.mk ((by rw [hg]; exact (below_size belowNow) : w.heap.size ≤ gb220))
                have n12_ := Aside0.mk ((by rw [hg]; exact Nat.ne_of_lt (blkLt (g := gb197)) : gb197 ≠ gb220))
                have n13_ := Aside0.mk ((by rw [hg]; exact Nat.ne_of_gt (blkLt (g := gb197)) : gb220 ≠ gb197))
                have n14_ := Aside0.mk ((by rw [hg]; exact Nat.ne_of_lt (blkLt (g := gb198)) : gb198 ≠ gb220))
                have n15_ := Aside0.mk ((by rw [hg]; exact Nat.ne_of_gt (blkLt (g := gb198)) : gb220 ≠ gb198))
                have n16_ := Aside0.mk ((by rw [hg]; exact Nat.ne_of_lt (blkLt (g := gb209)) : gb209 ≠ gb220))
                have n17_ := Aside0.mk ((by rw [hg]; exact Nat.ne_of_gt (blkLt (g := gb209)) : gb220 ≠ gb209))
                clear HO_3
                clear HO_198005
                clear HO_199005
                clear HO207
                clear HO218
                clear BK197
                clear BK198
                clear BK209
                clear HB
                have HO_3 := n0_
                have HO_198005 := n1_
                have HO_199005 := n2_
                have HO207 := n3_
                have HO218 := n4_
                have BK197 := n5_
                have BK198 := n6_
                have BK209 := n7_
                have HB := n8_
                have BK220 := n9_
                have GW220 := n10_
                have GE220 := n11_
                have NB197_220 := n12_
                have NB220_197 := n13_
                have NB198_220 := n14_
                have NB220_198 := n15_
                have NB209_220 := n16_
                have NB220_209 := n17_
                clear n0_ n1_ n2_ n3_ n4_ n5_ n6_ n7_ n8_ n9_ n10_ n11_ n12_ n13_ n14_ n15_ n16_ n17_
                clear hb hbox hg
                refine hK.out _ _ ⟨BK198.out, HS6_⟩ (fun hHeld => ?_)
                clear hK K
                refine norm_ (a' := ?_) ?_ ?_
                rotate_left
                · show Act.put _ (some 10) _ = _
                  simp only [Act.put, List.setIfInBounds_toArray, List.set_cons_zero, List.set_cons_succ, i64_w, i32_w]
                  rfl
                exact norm_ (by simp only [putAll, Act.put, List.setIfInBounds_toArray, List.set_cons_zero, List.set_cons_succ]) (hCont (v217, gb220) _ ⟨hHeld, (by (with_reducible repeat (first | apply Kd.R_alloc | apply Kd.R_drewN | apply Kd.R_drew)); exact Kd.R_mono HO207.out (fun _ hk => ⟨hk.2, ⟨hk.1.2.1, ⟨hk.1.2.2, hk.1.1⟩⟩⟩)), (by (with_reducible repeat (first | apply Kd.R_alloc | apply Kd.R_drewN | apply Kd.R_drew)); exact Kd.R_mono HO218.out (fun _ hk => ⟨hk.2, ⟨hk.1.1.2, ⟨hk.1.2, hk.1.1.1.2⟩⟩⟩)), (by (with_reducible repeat (first | apply Kd.Q_alloc | apply Kd.Q_drewN | apply Kd.Q_drew)); exact Kd.Q_mono HO_198005.out (fun _ hk => ⟨hk.1.2.2, ⟨hk.2, ⟨hk.1.2.1, hk.1.1⟩⟩⟩)), (by (with_reducible repeat (first | apply Kd.Q_alloc | apply Kd.Q_drewN | apply Kd.Q_drew)); exact Kd.Q_mono HO_199005.out (fun _ hk => ⟨hk.1.2.2, ⟨hk.2, ⟨hk.1.2.1, hk.1.1⟩⟩⟩)), (by (with_reducible repeat (first | apply Kd.R_alloc | apply Kd.R_drewN | apply Kd.R_drew)); exact Kd.R_mono HO_3.out (fun _ hk => ⟨hk.1.2.2, ⟨hk.2, ⟨hk.1.1, hk.1.2.1⟩⟩⟩)), blkNow, blkNow, blkNow, blkNow, GW220.out, GE220.out, NB197_220.out, NB220_197.out, NB198_220.out, NB220_198.out, NB209_220.out, NB220_209.out, belowNow⟩)
              · skip
                refine box_step ?hg (N := 10) ?hd (cs := #[.int .i64 0, .int .i64 0, .int .i64 0, .int .i64 0, .int .i64 0, .slice none 0 0]) (t := 35) ?hr ?_; (case hd => rfl); (case hg => rfl); (case hr => first | (go_simp; done) | (go_simp; rfl))
                intro gb220 hg w33 hbox hb
                have HS6_ := laws_FnTwice.Held_b hb rfl (hHeld.2)
                have n0_ := Aside0.mk (Kd.R_below (by (with_reducible repeat (first | apply Kd.R_alloc | apply Kd.R_drewN | apply Kd.R_drew)); exact HO_3.out) hb)
                have n1_ := Aside0.mk (Kd.Q_below (by (with_reducible repeat (first | apply Kd.Q_alloc | apply Kd.Q_drewN | apply Kd.Q_drew)); exact HO_198005.out) hb)
                have n2_ := Aside0.mk (Kd.Q_below (by (with_reducible repeat (first | apply Kd.Q_alloc | apply Kd.Q_drewN | apply Kd.Q_drew)); exact HO_199005.out) hb)
                have n3_ := Aside0.mk (Kd.R_below (by (with_reducible repeat (first | apply Kd.R_alloc | apply Kd.R_drewN | apply Kd.R_drew)); exact HO207.out) hb)
                have n4_ := Aside0.mk (blkStep (g := gb197) hb)
                have n5_ := Aside0.mk (blkStep (g := gb198) hb)
                have n6_ := Aside0.mk (blkStep (g := gb209) hb)
                have n7_ := Aside0.mk (below_step belowNow hb)
                have n8_ := Aside0.mk (hbox)
                have n9_ := Aside0.mk ((by rw [hg]; exact (below_size belowNow) : w.heap.size ≤ gb220))
                have n10_ := Aside0.mk ((by rw [hg]; exact (below_size belowNow) : w.heap.size ≤ gb220))
                have n11_ := Aside0.mk ((by rw [hg]; exact Nat.ne_of_lt (blkLt (g := gb197)) : gb197 ≠ gb220))
                have n12_ := Aside0.mk ((by rw [hg]; exact Nat.ne_of_gt (blkLt (g := gb197)) : gb220 ≠ gb197))
                have n13_ := Aside0.mk ((by rw [hg]; exact Nat.ne_of_lt (blkLt (g := gb198)) : gb198 ≠ gb220))
                have n14_ := Aside0.mk ((by rw [hg]; exact Nat.ne_of_gt (blkLt (g := gb198)) : gb220 ≠ gb198))
                have n15_ := Aside0.mk ((by rw [hg]; exact Nat.ne_of_lt (blkLt (g := gb209)) : gb209 ≠ gb220))
                have n16_ := Aside0.mk ((by rw [hg]; exact Nat.ne_of_gt (blkLt (g := gb209)) : gb220 ≠ gb209))
                clear HO_3
                clear HO_198005
                clear HO_199005
                clear HO207
                clear BK197
                clear BK198
                clear BK209
                clear HB
                have HO_3 := n0_
                have HO_198005 := n1_
                have HO_199005 := n2_
                have HO207 := n3_
                have BK197 := n4_
                have BK198 := n5_
                have BK209 := n6_
                have HB := n7_
                have BK220 := n8_
                have GW220 := n9_
                have GE220 := n10_
                have NB197_220 := n11_
                have NB220_197 := n12_
                have NB198_220 := n13_
                have NB220_198 := n14_
                have NB209_220 := n15_
                have NB220_209 := n16_
                clear n0_ n1_ n2_ n3_ n4_ n5_ n6_ n7_ n8_ n9_ n10_ n11_ n12_ n13_ n14_ n15_ n16_
                clear hb hbox hg
                refine hK.out _ _ ⟨BK198.out, HS6_⟩ (fun hHeld => ?_)
                clear hK K
                refine norm_ (a' := ?_) ?_ ?_
                rotate_left
                · show Act.put _ (some 10) _ = _
                  simp only [Act.put, List.setIfInBounds_toArray, List.set_cons_zero, List.set_cons_succ, i64_w, i32_w]
                  rfl
                refine one_ (i := 5) (N := some 47) #[true, true, true, true, true, true, false, false, false, true, false, false] rfl rfl (one_of HT_.out (by kernel_rfl)) (by decide) (fun K hK => ?_)
                refine goes_ Try.func26 (by kernel_rfl) rfl #[.agg #[.int .i64 x199000_1, .int .i64 x199001_1, .int .i64 x199002_1, .int .i64 x199003_1, .int .i64 x199004_1, .slice Ao30 x199005_1.length co30], .agg #[.int .i64 ((rd_T44 t194 x7_1).f0), .int .i64 ((rd_T44 t194 x7_1).f1), .int .u8 ((rd_T44 t194 x7_1).f2.f0), .int .u8 ((rd_T44 t194 x7_1).f2.f1), .int .u8 ((rd_T44 t194 x7_1).f2.f2), .int .u8 ((rd_T44 t194 x7_1).f2.f3), .int .u8 ((rd_T44 t194 x7_1).f2.f4), .int .u8 ((rd_T44 t194 x7_1).f2.f5), .int .u8 ((rd_T44 t194 x7_1).f2.f6), .int .u8 ((rd_T44 t194 x7_1).f2.f7), .int .u8 ((rd_T44 t194 x7_1).f2.f8), .int .u8 ((rd_T44 t194 x7_1).f2.f9), .int .u8 ((rd_T44 t194 x7_1).f2.f10), .int .u8 ((rd_T44 t194 x7_1).f2.f11), .int .u8 ((rd_T44 t194 x7_1).f2.f12), .int .u8 ((rd_T44 t194 x7_1).f2.f13), .int .u8 ((rd_T44 t194 x7_1).f2.f14), .int .u8 ((rd_T44 t194 x7_1).f2.f15)]] (by rfl) rfl rfl (by (try simp only [List.map_toArray, List.map_cons, List.map_nil]); first | done | rfl | (simp only [List.length_drop, List.length_take]; rfl)) ?_
                with_reducible refine (impl_Put.calls k1 x199000_1 x199001_1 x199002_1 x199003_1 x199004_1 _ _ x199005_1 ((rd_T44 t194 x7_1).f0) ((rd_T44 t194 x7_1).f1) ((rd_T44 t194 x7_1).f2.f0) ((rd_T44 t194 x7_1).f2.f1) ((rd_T44 t194 x7_1).f2.f2) ((rd_T44 t194 x7_1).f2.f3) ((rd_T44 t194 x7_1).f2.f4) ((rd_T44 t194 x7_1).f2.f5) ((rd_T44 t194 x7_1).f2.f6) ((rd_T44 t194 x7_1).f2.f7) ((rd_T44 t194 x7_1).f2.f8) ((rd_T44 t194 x7_1).f2.f9) ((rd_T44 t194 x7_1).f2.f10) ((rd_T44 t194 x7_1).f2.f11) ((rd_T44 t194 x7_1).f2.f12) ((rd_T44 t194 x7_1).f2.f13) ((rd_T44 t194 x7_1).f2.f14) ((rd_T44 t194 x7_1).f2.f15) t211 t212 t213 t214 t215 t216 t219 _ ?side1 ?side2 A15.out).mono ?_
                (case side1 => repeat (first | exact (Kd.Q_reads' HO_199005.out).2.2 | (with_reducible refine Kd.C_alloc ?_ _) | (with_reducible refine Kd.C_drewN ?_ _) | (with_reducible refine Kd.C_drew ?_)))
                (case side2 => exact (Kd.Q_reads' HO_199005.out).2.1)
                rintro e w34 ⟨v217, rfl, ho0, hb⟩
                have HS6_ := laws_FnTwice.Held_b hb rfl (hHeld.2)
                refine ⟨_, rfl, ?_⟩
                have n0_ := Aside0.mk (Kd.R_elder' (by (with_reducible repeat (first | apply Kd.R_alloc | apply Kd.R_drewN | apply Kd.R_drew)); exact HO_3.out) (Kd.R_base ho0) hb)
                have n1_ := Aside0.mk (Kd.Q_elder' (by (with_reducible repeat (first | apply Kd.Q_alloc | apply Kd.Q_drewN | apply Kd.Q_drew)); exact HO_198005.out) (Kd.R_base ho0) hb)
                have n2_ := Aside0.mk (Kd.Q_elder' (by (with_reducible repeat (first | apply Kd.Q_alloc | apply Kd.Q_drewN | apply Kd.Q_drew)); exact HO_199005.out) (Kd.R_base ho0) hb)
                have n3_ := Aside0.mk (Kd.R_elder' (by (with_reducible repeat (first | apply Kd.R_alloc | apply Kd.R_drewN | apply Kd.R_drew)); exact HO207.out) (Kd.R_base ho0) hb)
                have n4_ := Aside0.mk (Kd.R_lower (Kd.R_new' (Kd.R_new' (Kd.R_new' (Kd.R_new' ho0 (Kd.R_lt (by (with_reducible repeat (first | apply Kd.R_alloc | apply Kd.R_drewN | apply Kd.R_drew)); exact HO_3.out))) (Kd.Q_lt (by (with_reducible repeat (first | apply Kd.Q_alloc | apply Kd.Q_drewN | apply Kd.Q_drew)); exact HO_198005.out))) (Kd.Q_lt (by (with_reducible repeat (first | apply Kd.Q_alloc | apply Kd.Q_drewN | apply Kd.Q_drew)); exact HO_199005.out))) (Kd.R_lt (by (with_reducible repeat (first | apply Kd.R_alloc | apply Kd.R_drewN | apply Kd.R_drew)); exact HO207.out))) (below_size belowNow))
                have n5_ := Aside0.mk (blkStep (g := gb197) hb)
                have n6_ := Aside0.mk (blkStep (g := gb198) hb)
                have n7_ := Aside0.mk (blkStep (g := gb209) hb)
                have n8_ := Aside0.mk (blkStep (g := gb220) hb)
                have n9_ := Aside0.mk (below_step belowNow hb)
                clear HO_3
                clear HO_198005
                clear HO_199005
                clear HO207
                clear BK197
                clear BK198
                clear BK209
                clear BK220
                clear HB
                have HO_3 := n0_
                have HO_198005 := n1_
                have HO_199005 := n2_
                have HO207 := n3_
                have HO218 := n4_
                have BK197 := n5_
                have BK198 := n6_
                have BK209 := n7_
                have BK220 := n8_
                have HB := n9_
                clear n0_ n1_ n2_ n3_ n4_ n5_ n6_ n7_ n8_ n9_
                (try clear hb)
                (try clear hb2)
                (try clear hk)
                (try clear hi)
                (try clear ho0)
                refine hK.out _ _ ⟨BK198.out, HS6_⟩ (fun hHeld => ?_)
                clear hK K
                refine norm_ (a' := ?_) ?_ ?_
                rotate_left
                · show Act.put _ (some 47) _ = _
                  simp only [Act.put, List.setIfInBounds_toArray, List.set_cons_zero, List.set_cons_succ, i64_w, i32_w]
                  rfl
                refine pure_ (i := 6) (N := some 41) (v := ?_) (a' := ?_) #[true, true, true, true, true, true, true, false, false, true, false, false] rfl rfl (any_of HT_.out (by kernel_rfl)) (fun _ _ _ h => h) (Or.inl ⟨by rfl, ?_⟩) ?_ ?_
                rotate_left
                · intro w'
                  go_simp
                  with_reducible rfl
                rotate_left
                · simp only [Act.put, List.setIfInBounds_toArray, List.set_cons_zero, List.set_cons_succ, i64_w, i32_w]
                  rfl
                refine pure_ (i := 7) (N := some 48) (v := ?_) (a' := ?_) #[true, true, true, true, true, true, true, true, false, true, false, false] rfl rfl (any_of HT_.out (by kernel_rfl)) (fun _ _ _ h => h) (Or.inl ⟨by rfl, ?_⟩) ?_ ?_
                rotate_left
                · intro w'
                  go_simp
                  with_reducible rfl
                rotate_left
                · simp only [Act.put, List.setIfInBounds_toArray, List.set_cons_zero, List.set_cons_succ, i64_w, i32_w]
                  rfl
                refine pure_ (i := 8) (N := some 49) (v := ?_) (a' := ?_) #[true, true, true, true, true, true, true, true, true, true, false, false] rfl rfl (any_of HT_.out (by kernel_rfl)) (fun _ _ _ h => h) (Or.inl ⟨by rfl, ?_⟩) ?_ ?_
                rotate_left
                · intro w'
                  go_simp
                  with_reducible rfl
                rotate_left
                · simp only [Act.put, List.setIfInBounds_toArray, List.set_cons_zero, List.set_cons_succ, i64_w, i32_w]
                  rfl
                exact norm_ (by simp only [putAll, Act.put, List.setIfInBounds_toArray, List.set_cons_zero, List.set_cons_succ]) (hCont (v217, gb220) _ ⟨hHeld, (by (with_reducible repeat (first | apply Kd.R_alloc | apply Kd.R_drewN | apply Kd.R_drew)); exact Kd.R_mono HO207.out (fun _ hk => ⟨hk.2, ⟨hk.1.2.1, ⟨hk.1.2.2, hk.1.1⟩⟩⟩)), (by (with_reducible repeat (first | apply Kd.R_alloc | apply Kd.R_drewN | apply Kd.R_drew)); exact Kd.R_mono HO218.out (fun _ hk => ⟨hk.2, ⟨hk.1.1.2, ⟨hk.1.2, hk.1.1.1.2⟩⟩⟩)), (by (with_reducible repeat (first | apply Kd.Q_alloc | apply Kd.Q_drewN | apply Kd.Q_drew)); exact Kd.Q_mono HO_198005.out (fun _ hk => ⟨hk.1.2.2, ⟨hk.2, ⟨hk.1.2.1, hk.1.1⟩⟩⟩)), (by (with_reducible repeat (first | apply Kd.Q_alloc | apply Kd.Q_drewN | apply Kd.Q_drew)); exact Kd.Q_mono HO_199005.out (fun _ hk => ⟨hk.1.2.2, ⟨hk.2, ⟨hk.1.2.1, hk.1.1⟩⟩⟩)), (by (with_reducible repeat (first | apply Kd.R_alloc | apply Kd.R_drewN | apply Kd.R_drew)); exact Kd.R_mono HO_3.out (fun _ hk => ⟨hk.1.2.2, ⟨hk.2, ⟨hk.1.1, hk.1.2.1⟩⟩⟩)), blkNow, blkNow, blkNow, blkNow, GW220.out, GE220.out, NB197_220.out, NB220_197.out, NB198_220.out, NB220_198.out, NB209_220.out, NB220_209.out, belowNow⟩)
            rintro ⟨v217, gb220⟩ w35 ⟨hS_, h0_, h1_, h2_, h3_, h4_, h5_, h6_, h7_, h8_, h9_, h10_, h11_, h12_, h13_, h14_, h15_, h16_, h17_⟩
            have n0_ : Aside0 (Kd.R k44 44 w35 w.heap.size (fun k_ => some k_ ≠ (v217 : Value).ownBlock ∧ some k_ ≠ (.slice Ao18 x198005_1.length co18 : Value).ownBlock ∧ some k_ ≠ (.slice Ao30 x199005_1.length co30 : Value).ownBlock ∧ some k_ ≠ (.slice (some ad199) t194.length co17 : Value).ownBlock) (.slice Ao28 t205.length co28) t205) := ⟨h0_⟩
            have n1_ : Aside0 (Kd.R k44 44 w35 w.heap.size (fun k_ => some k_ ≠ (.slice Ao28 t205.length co28 : Value).ownBlock ∧ some k_ ≠ (.slice Ao18 x198005_1.length co18 : Value).ownBlock ∧ some k_ ≠ (.slice Ao30 x199005_1.length co30 : Value).ownBlock ∧ some k_ ≠ (.slice (some ad199) t194.length co17 : Value).ownBlock) v217 t216) := ⟨h1_⟩
            have n2_ : Aside0 (Kd.Q k44 44 w35 w.heap.size (fun k_ => some k_ ≠ (.slice Ao28 t205.length co28 : Value).ownBlock ∧ some k_ ≠ (v217 : Value).ownBlock ∧ some k_ ≠ (.slice Ao30 x199005_1.length co30 : Value).ownBlock ∧ some k_ ≠ (.slice (some ad199) t194.length co17 : Value).ownBlock) (.slice Ao18 x198005_1.length co18) x198005_1) := ⟨h2_⟩
            have n3_ : Aside0 (Kd.Q k44 44 w35 w.heap.size (fun k_ => some k_ ≠ (.slice Ao28 t205.length co28 : Value).ownBlock ∧ some k_ ≠ (v217 : Value).ownBlock ∧ some k_ ≠ (.slice Ao18 x198005_1.length co18 : Value).ownBlock ∧ some k_ ≠ (.slice (some ad199) t194.length co17 : Value).ownBlock) (.slice Ao30 x199005_1.length co30) x199005_1) := ⟨h3_⟩
            have n4_ : Aside0 (Kd.R k44 44 w35 w.heap.size (fun k_ => some k_ ≠ (.slice Ao28 t205.length co28 : Value).ownBlock ∧ some k_ ≠ (v217 : Value).ownBlock ∧ some k_ ≠ (.slice Ao18 x198005_1.length co18 : Value).ownBlock ∧ some k_ ≠ (.slice Ao30 x199005_1.length co30 : Value).ownBlock) (.slice (some ad199) t194.length co17) t194) := ⟨h4_⟩
            have n5_ : Aside0 (w35.heap[gb197]? = some (.cells #[.int .i64 x198000_1, .int .i64 x198001_1, .int .i64 x198002_1, .int .i64 x198003_1, .int .i64 x198004_1, .slice Ao18 x198005_1.length co18] 35 (0, 0))) := ⟨h5_⟩
            have n6_ : Aside0 (w35.heap[gb198]? = some (.cells #[.int .i64 x199000_1, .int .i64 x199001_1, .int .i64 x199002_1, .int .i64 x199003_1, .int .i64 x199004_1, .slice Ao30 x199005_1.length co30] 35 (0, 0))) := ⟨h6_⟩
            have n7_ : Aside0 (w35.heap[gb209]? = some (.cells #[.int .i64 t200, .int .i64 t201, .int .i64 t202, .int .i64 t203, .int .i64 t204, .slice Ao28 t205.length co28] 35 (0, 0))) := ⟨h7_⟩
            have n8_ : Aside0 (w35.heap[gb220]? = some (.cells #[.int .i64 0, .int .i64 0, .int .i64 0, .int .i64 0, .int .i64 0, .slice none 0 0] 35 (0, 0))) := ⟨h8_⟩
            have n9_ : Aside0 (w.heap.size ≤ gb220) := ⟨h9_⟩
            have n10_ : Aside0 (w.heap.size ≤ gb220) := ⟨h10_⟩
            have n11_ : Aside0 (gb197 ≠ gb220) := ⟨h11_⟩
            have n12_ : Aside0 (gb220 ≠ gb197) := ⟨h12_⟩
            have n13_ : Aside0 (gb198 ≠ gb220) := ⟨h13_⟩
            have n14_ : Aside0 (gb220 ≠ gb198) := ⟨h14_⟩
            have n15_ : Aside0 (gb209 ≠ gb220) := ⟨h15_⟩
            have n16_ : Aside0 (gb220 ≠ gb209) := ⟨h16_⟩
            have n17_ : Aside0 (Below w.heap.size w w35) := ⟨h17_⟩
            clear HO_3
            clear HO_198005
            clear HO_199005
            clear HO207
            clear BK197
            clear BK198
            clear BK209
            clear HB
            clear h0_ h1_ h2_ h3_ h4_ h5_ h6_ h7_ h8_ h9_ h10_ h11_ h12_ h13_ h14_ h15_ h16_ h17_
            have HO207 := n0_
            have HO218 := n1_
            have HO_198005 := n2_
            have HO_199005 := n3_
            have HO_3 := n4_
            have BK197 := n5_
            have BK198 := n6_
            have BK209 := n7_
            have BK220 := n8_
            have GW220 := n9_
            have GE220 := n10_
            have NB197_220 := n11_
            have NB220_197 := n12_
            have NB198_220 := n13_
            have NB220_198 := n14_
            have NB209_220 := n15_
            have NB220_209 := n16_
            have HB := n17_
            clear n0_ n1_ n2_ n3_ n4_ n5_ n6_ n7_ n8_ n9_ n10_ n11_ n12_ n13_ n14_ n15_ n16_ n17_
            have hHeld : w35.heap[gb198]? = some (.cells #[.int .i64 x199000_1, .int .i64 x199001_1, .int .i64 x199002_1, .int .i64 x199003_1, .int .i64 x199004_1, .slice Ao30 x199005_1.length co30] 35 (0, 0)) ∧ laws_FnTwice.Held w35 (ad199.add ((x7_1).toNat * 18)) (rd_T44 t194 x7_1) := hS_
            obtain ⟨Ao41, co41, eo41⟩ := Kd.R_slice HO218.out
            (first | subst eo41 | (injection eo41 with f1_ f2_ f3_; have f4_ := f1_.symm; have f5_ := f3_.symm; clear f1_ f2_ f3_; subst f4_; subst f5_))
            refine norm_ (a' := ?_) ?_ ?_
            rotate_left
            · simp only [putAll, Act.put, List.setIfInBounds_toArray, List.set_cons_zero, List.set_cons_succ]
              rfl
            refine one_ (i := 10) (N := none) #[true, true, true, true, true, true, true, true, true, true, true, false] rfl rfl (one_of HT_.out (by kernel_rfl)) (by decide) (fun K hK => ?_)
            refine skip_ (w1 := ?_) (by rfl) rfl ?_ ?_
            rotate_left
            · refine laws_FnTwice.sb6 (x := ?_) (y := ?_) (T := ?_) (u0 := ?_) (u1 := ?_) (u2 := ?_) (u3 := ?_) (u4 := ?_) (u5 := ?_) ?_ ?_ ?_ (by with_reducible first | exact BK220.out | exact laws_FnTwice.bfar6 NB220_197.out BK220.out | exact laws_FnTwice.bfar6 NB220_198.out BK220.out | exact laws_FnTwice.bfar6 NB220_209.out BK220.out) (by rfl) ?_ ?_; rotate_left 9; rfl; rfl; rfl; kernel_rfl; simp [Value.oneCell']
            refine laws_FnTwice.let_ (fun wq1 hwq1 => ?_)
            refine hK.out _ _ ⟨(by rw [hwq1]; exact (laws_FnTwice.bfar6 NB198_220.out (hHeld.1))), (by rw [hwq1]; exact fun j v hj => (Far.far6_ (Far.ab_ (Kd.own_blk (Kd.R_ne HO_3.out BK220.out (by decide)))) (hHeld.2 j v hj)))⟩ (fun hHeld => ?_)
            clear hK K
            refine pure_ (i := 11) (N := some 11) (v := ?_) (a' := ?_) #[true, true, true, true, true, true, true, true, true, true, true, true] rfl rfl (any_of HT_.out (by kernel_rfl)) (fun _ _ _ h => h) (Or.inl ⟨by rfl, ?_⟩) ?_ ?_
            rotate_left
            · intro w'
              go_simp
              with_reducible rfl
            rotate_left
            · simp only [Act.put, List.setIfInBounds_toArray, List.set_cons_zero, List.set_cons_succ, i64_w, i32_w]
              rfl
            refine done_ (done_of HT_.out (by kernel_rfl)) ?_
            subst hwq1
            go_upto_region 12 with (fail)
            go_cut [55] (fun v55 wc => ∃ (kq : Nat) (x55_15 : Bool), v55 = .bool x55_15 ∧ Aside0 (laws_FnTwice.j1 kq l0 t194 x6_1 x7_1 t219 x55_15 t200 t201 t202 t203 t204 t205 t211 t212 t213 t214 t215 t216 = some r) ∧ Aside0 (kq ≤ k1) ∧ Aside0 (Kd.R k44 44 wc w.heap.size (fun k_ => some k_ ≠ ((.slice Ao18 x198005_1.length co18) : Value).ownBlock ∧ some k_ ≠ ((.slice Ao30 x199005_1.length co30) : Value).ownBlock ∧ some k_ ≠ ((.slice Ao28 t205.length co28) : Value).ownBlock ∧ some k_ ≠ ((.slice Ao41 t216.length co41) : Value).ownBlock) (.slice (some ad199) t194.length co17) t194) ∧ Aside0 (Kd.Q k44 44 wc w.heap.size (fun k_ => some k_ ≠ ((.slice (some ad199) t194.length co17) : Value).ownBlock ∧ some k_ ≠ ((.slice Ao30 x199005_1.length co30) : Value).ownBlock ∧ some k_ ≠ ((.slice Ao28 t205.length co28) : Value).ownBlock ∧ some k_ ≠ ((.slice Ao41 t216.length co41) : Value).ownBlock) (.slice Ao18 x198005_1.length co18) x198005_1) ∧ Aside0 (Kd.Q k44 44 wc w.heap.size (fun k_ => some k_ ≠ ((.slice (some ad199) t194.length co17) : Value).ownBlock ∧ some k_ ≠ ((.slice Ao18 x198005_1.length co18) : Value).ownBlock ∧ some k_ ≠ ((.slice Ao28 t205.length co28) : Value).ownBlock ∧ some k_ ≠ ((.slice Ao41 t216.length co41) : Value).ownBlock) (.slice Ao30 x199005_1.length co30) x199005_1) ∧ Aside0 (Kd.Q k44 44 wc w.heap.size (fun k_ => some k_ ≠ ((.slice (some ad199) t194.length co17) : Value).ownBlock ∧ some k_ ≠ ((.slice Ao18 x198005_1.length co18) : Value).ownBlock ∧ some k_ ≠ ((.slice Ao30 x199005_1.length co30) : Value).ownBlock ∧ some k_ ≠ ((.slice Ao41 t216.length co41) : Value).ownBlock) (.slice Ao28 t205.length co28) t205) ∧ Aside0 (Kd.Q k44 44 wc w.heap.size (fun k_ => some k_ ≠ ((.slice (some ad199) t194.length co17) : Value).ownBlock ∧ some k_ ≠ ((.slice Ao18 x198005_1.length co18) : Value).ownBlock ∧ some k_ ≠ ((.slice Ao30 x199005_1.length co30) : Value).ownBlock ∧ some k_ ≠ ((.slice Ao28 t205.length co28) : Value).ownBlock) (.slice Ao41 t216.length co41) t216) ∧ Aside0 (wc.heap[gb197]? = some (.cells #[.int .i64 x198000_1, .int .i64 x198001_1, .int .i64 x198002_1, .int .i64 x198003_1, .int .i64 x198004_1, (.slice Ao18 x198005_1.length co18)] 35 (0, 0))) ∧ Aside0 (wc.heap[gb198]? = some (.cells #[.int .i64 x199000_1, .int .i64 x199001_1, .int .i64 x199002_1, .int .i64 x199003_1, .int .i64 x199004_1, (.slice Ao30 x199005_1.length co30)] 35 (0, 0))) ∧ Aside0 (wc.heap[gb209]? = some (.cells #[.int .i64 t200, .int .i64 t201, .int .i64 t202, .int .i64 t203, .int .i64 t204, (.slice Ao28 t205.length co28)] 35 (0, 0))) ∧ Aside0 (wc.heap[gb220]? = some (.cells #[.int .i64 t211, .int .i64 t212, .int .i64 t213, .int .i64 t214, .int .i64 t215, (.slice Ao41 t216.length co41)] 35 (0, 0))) ∧ Aside0 (Below w.heap.size w wc))
            case first =>
              have H := HC16.out
              clear HC16
              by_cases c43 : t208 = true
              · subst c43
                have H1 : (laws_FnTwice.j1 k1 l0 t194 x6_1 x7_1 t219 (!t219) t200 t201 t202 t203 t204 t205 t211 t212 t213 t214 t215 t216) = some r := by rw [if_pos rfl] at H; exact H
                clear H
                have H := H1
                clear H1
                as_aux_lemma =>
                  have H' := Aside0.mk H
                  clear H
                  go_wp2
                  go_meet
                  case rel => exact ⟨_, (!t219), (by first | rfl | (simp; done) | (simp [*]; done)), H', ⟨by have := HK1.out; first | omega | exact Nat.le_refl _⟩, ⟨by (with_reducible repeat (first | apply Kd.R_alloc | apply Kd.R_drewN | apply Kd.R_drew)); exact Kd.R_mono (Far.rfar6_ (fun _ hk => hk.2) (Kd.R_types HO_3.out BK220.out (by decide))) (fun _ hk => by first | exact ⟨hk.1.2.2.1, ⟨hk.1.2.2.2, ⟨hk.1.1, hk.1.2.1⟩⟩⟩ | simp [hk])⟩, ⟨by (with_reducible repeat (first | apply Kd.Q_alloc | apply Kd.Q_drewN | apply Kd.Q_drew)); exact Kd.Q_mono (Far.qfar6_ (fun _ hk => hk.2) (Kd.Q_types HO_198005.out BK220.out (by decide))) (fun _ hk => by first | exact ⟨hk.1.2.2.2, ⟨hk.1.2.2.1, ⟨hk.1.1, hk.1.2.1⟩⟩⟩ | simp [hk])⟩, ⟨by (with_reducible repeat (first | apply Kd.Q_alloc | apply Kd.Q_drewN | apply Kd.Q_drew)); exact Kd.Q_mono (Far.qfar6_ (fun _ hk => hk.2) (Kd.Q_types HO_199005.out BK220.out (by decide))) (fun _ hk => by first | exact ⟨hk.1.2.2.2, ⟨hk.1.2.2.1, ⟨hk.1.1, hk.1.2.1⟩⟩⟩ | simp [hk])⟩, ⟨Kd.Q_of_R (by (with_reducible repeat (first | apply Kd.R_alloc | apply Kd.R_drewN | apply Kd.R_drew)); exact Kd.R_mono (Far.rfar6_ (fun _ hk => hk.2) (Kd.R_types HO207.out BK220.out (by decide))) (fun _ hk => by first | exact ⟨hk.1.2.2.2, ⟨hk.1.2.1, ⟨hk.1.2.2.1, hk.1.1⟩⟩⟩ | simp [hk]))⟩, ⟨Kd.Q_of_R (by (with_reducible repeat (first | apply Kd.R_alloc | apply Kd.R_drewN | apply Kd.R_drew)); exact Kd.R_mono (Far.rfar6_ (fun _ hk => hk.2) (Kd.R_types HO218.out BK220.out (by decide))) (fun _ hk => by first | exact ⟨hk.1.2.2.2, ⟨hk.1.2.1, ⟨hk.1.2.2.1, hk.1.1⟩⟩⟩ | simp [hk]))⟩, ⟨blkFars⟩, ⟨blkFars⟩, ⟨blkFars⟩, ⟨by (with_reducible repeat (first | refine blk_drewN ?_ _ | refine blk_drew ?_ | refine blk_alloc ?_ _)); refine Far.put6_ #[.int .i64 0, .int .i64 0, .int .i64 0, .int .i64 0, .int .i64 0, .slice none 0 0] rfl ?_; (with_reducible repeat (first | refine blk_drewN ?_ _ | refine blk_drew ?_ | refine blk_alloc ?_ _)); exact BK220.out⟩, ⟨belowNow⟩⟩
              · replace c43 := Bool.eq_false_iff.mpr c43
                subst c43
                have H1 : (laws_FnTwice.j1 k1 l0 t194 x6_1 x7_1 t219 true t200 t201 t202 t203 t204 t205 t211 t212 t213 t214 t215 t216) = some r := by rw [if_neg (show ¬ (false = true) by decide)] at H; exact H
                clear H
                have H := H1
                clear H1
                as_aux_lemma =>
                  have H' := Aside0.mk H
                  clear H
                  go_wp2
                  go_meet
                  case rel => exact ⟨_, (true), (by first | rfl | (simp; done) | (simp [*]; done)), H', ⟨by have := HK1.out; first | omega | exact Nat.le_refl _⟩, ⟨by (with_reducible repeat (first | apply Kd.R_alloc | apply Kd.R_drewN | apply Kd.R_drew)); exact Kd.R_mono (Far.rfar6_ (fun _ hk => hk.2) (Kd.R_types HO_3.out BK220.out (by decide))) (fun _ hk => by first | exact ⟨hk.1.2.2.1, ⟨hk.1.2.2.2, ⟨hk.1.1, hk.1.2.1⟩⟩⟩ | simp [hk])⟩, ⟨by (with_reducible repeat (first | apply Kd.Q_alloc | apply Kd.Q_drewN | apply Kd.Q_drew)); exact Kd.Q_mono (Far.qfar6_ (fun _ hk => hk.2) (Kd.Q_types HO_198005.out BK220.out (by decide))) (fun _ hk => by first | exact ⟨hk.1.2.2.2, ⟨hk.1.2.2.1, ⟨hk.1.1, hk.1.2.1⟩⟩⟩ | simp [hk])⟩, ⟨by (with_reducible repeat (first | apply Kd.Q_alloc | apply Kd.Q_drewN | apply Kd.Q_drew)); exact Kd.Q_mono (Far.qfar6_ (fun _ hk => hk.2) (Kd.Q_types HO_199005.out BK220.out (by decide))) (fun _ hk => by first | exact ⟨hk.1.2.2.2, ⟨hk.1.2.2.1, ⟨hk.1.1, hk.1.2.1⟩⟩⟩ | simp [hk])⟩, ⟨Kd.Q_of_R (by (with_reducible repeat (first | apply Kd.R_alloc | apply Kd.R_drewN | apply Kd.R_drew)); exact Kd.R_mono (Far.rfar6_ (fun _ hk => hk.2) (Kd.R_types HO207.out BK220.out (by decide))) (fun _ hk => by first | exact ⟨hk.1.2.2.2, ⟨hk.1.2.1, ⟨hk.1.2.2.1, hk.1.1⟩⟩⟩ | simp [hk]))⟩, ⟨Kd.Q_of_R (by (with_reducible repeat (first | apply Kd.R_alloc | apply Kd.R_drewN | apply Kd.R_drew)); exact Kd.R_mono (Far.rfar6_ (fun _ hk => hk.2) (Kd.R_types HO218.out BK220.out (by decide))) (fun _ hk => by first | exact ⟨hk.1.2.2.2, ⟨hk.1.2.1, ⟨hk.1.2.2.1, hk.1.1⟩⟩⟩ | simp [hk]))⟩, ⟨blkFars⟩, ⟨blkFars⟩, ⟨blkFars⟩, ⟨by (with_reducible repeat (first | refine blk_drewN ?_ _ | refine blk_drew ?_ | refine blk_alloc ?_ _)); refine Far.put6_ #[.int .i64 0, .int .i64 0, .int .i64 0, .int .i64 0, .int .i64 0, .slice none 0 0] rfl ?_; (with_reducible repeat (first | refine blk_drewN ?_ _ | refine blk_drew ?_ | refine blk_alloc ?_ _)); exact BK220.out⟩, ⟨belowNow⟩⟩
            case rest =>
              clear HC16
              try clear c2
              try clear p2
              try clear q2
              try clear hx2
              try clear c4
              try clear p21
              try clear q21
              try clear hx21
              try clear c26
              try clear c43
              try clear hx210_0
              try clear hx210_1
              try clear hx210_10
              try clear hx210_11
              try clear hx210_12
              try clear hx210_13
              try clear hx210_14
              try clear hx210_15
              try clear hx210_16
              try clear hx210_17
              try clear hx210_2
              try clear hx210_3
              try clear hx210_4
              try clear hx210_5
              try clear hx210_6
              try clear hx210_7
              try clear hx210_8
              try clear hx210_9
              try clear p210
              try clear q210
              obtain ⟨kq, x55_15, rfl, HA, HJ15, HO_3, HO_198005, HO_199005, HO_210005, HO_221005, BK197, BK198, BK209, BK220, HB⟩ := hcut
              cases kq with
              | zero => exact absurd HA.out (by simp [laws_FnTwice.j1])
              | succ kj15 =>
                have H := HA.out
                clear HA
                simp only [laws_FnTwice.j1] at H
                by_cases c44 : x55_15 = true
                · subst c44
                  have H1 : (some false) = some r := by rw [if_pos rfl] at H; exact H
                  clear H
                  have H := H1
                  clear H1
                  as_aux_lemma =>
                    obtain rfl := Option.some.inj H
                    go_wp2
                    go_ret
                    exact ⟨by first | rfl | (simp [errW_none, errW_some] <;> rfl) | (simp [*, errW_none, errW_some] <;> rfl), belowNow⟩
                · replace c44 := Bool.eq_false_iff.mpr c44
                  subst c44
                  have H1 : ((laws_at.f l0 x7_1).bind fun t221 => (if (Int.tmod t221 2) = 0 then (if 0 ≤ x7_1 then (if x7_1 < (t194.length : Int) then ((impl_Put.f kj15 t211 t212 t213 t214 t215 t216 ((rd_T44 t194 x7_1).f0) ((rd_T44 t194 x7_1).f1) ((rd_T44 t194 x7_1).f2.f0) ((rd_T44 t194 x7_1).f2.f1) ((rd_T44 t194 x7_1).f2.f2) ((rd_T44 t194 x7_1).f2.f3) ((rd_T44 t194 x7_1).f2.f4) ((rd_T44 t194 x7_1).f2.f5) ((rd_T44 t194 x7_1).f2.f6) ((rd_T44 t194 x7_1).f2.f7) ((rd_T44 t194 x7_1).f2.f8) ((rd_T44 t194 x7_1).f2.f9) ((rd_T44 t194 x7_1).f2.f10) ((rd_T44 t194 x7_1).f2.f11) ((rd_T44 t194 x7_1).f2.f12) ((rd_T44 t194 x7_1).f2.f13) ((rd_T44 t194 x7_1).f2.f14) ((rd_T44 t194 x7_1).f2.f15)).bind fun bt223 => (laws_FnTwice.j2 kj15 l0 t194 (wrap64 (x6_1 + 1)) x7_1 bt223.2.2.2.2.2.2 t200 t201 t202 t203 t204 t205 bt223.1 bt223.2.1 bt223.2.2.1 bt223.2.2.2.1 bt223.2.2.2.2.1 bt223.2.2.2.2.2.1)) else (none)) else (none)) else (laws_FnTwice.j2 kj15 l0 t194 x6_1 x7_1 t219 t200 t201 t202 t203 t204 t205 t211 t212 t213 t214 t215 t216))) = some r := by rw [if_neg (show ¬ (false = true) by decide)] at H; exact H
                  clear H
                  have H := H1
                  clear H1
                  replace H := Option.bind_eq_some_iff.mp H
                  obtain ⟨t221, A450, H⟩ := H
                  replace H : (if (Int.tmod t221 2) = 0 then (if 0 ≤ x7_1 then (if x7_1 < (t194.length : Int) then ((impl_Put.f kj15 t211 t212 t213 t214 t215 t216 ((rd_T44 t194 x7_1).f0) ((rd_T44 t194 x7_1).f1) ((rd_T44 t194 x7_1).f2.f0) ((rd_T44 t194 x7_1).f2.f1) ((rd_T44 t194 x7_1).f2.f2) ((rd_T44 t194 x7_1).f2.f3) ((rd_T44 t194 x7_1).f2.f4) ((rd_T44 t194 x7_1).f2.f5) ((rd_T44 t194 x7_1).f2.f6) ((rd_T44 t194 x7_1).f2.f7) ((rd_T44 t194 x7_1).f2.f8) ((rd_T44 t194 x7_1).f2.f9) ((rd_T44 t194 x7_1).f2.f10) ((rd_T44 t194 x7_1).f2.f11) ((rd_T44 t194 x7_1).f2.f12) ((rd_T44 t194 x7_1).f2.f13) ((rd_T44 t194 x7_1).f2.f14) ((rd_T44 t194 x7_1).f2.f15)).bind fun bt223 => (laws_FnTwice.j2 kj15 l0 t194 (wrap64 (x6_1 + 1)) x7_1 bt223.2.2.2.2.2.2 t200 t201 t202 t203 t204 t205 bt223.1 bt223.2.1 bt223.2.2.1 bt223.2.2.2.1 bt223.2.2.2.2.1 bt223.2.2.2.2.2.1)) else (none)) else (none)) else (laws_FnTwice.j2 kj15 l0 t194 x6_1 x7_1 t219 t200 t201 t202 t203 t204 t205 t211 t212 t213 t214 t215 t216)) = some r := H
                  have A45 := Aside0.mk A450
                  clear A450
                  have HC46 := Aside0.mk H
                  clear H
                  try go_wp2
                  have n0_ := Aside0.mk (Kd.R_drew HO_3.out)
                  have n1_ := Aside0.mk (Kd.Q_drew HO_198005.out)
                  have n2_ := Aside0.mk (Kd.Q_drew HO_199005.out)
                  have n3_ := Aside0.mk (Kd.Q_drew HO_210005.out)
                  have n4_ := Aside0.mk (Kd.Q_drew HO_221005.out)
                  have n5_ := Aside0.mk (blk_drew BK197.out)
                  have n6_ := Aside0.mk (blk_drew BK198.out)
                  have n7_ := Aside0.mk (blk_drew BK209.out)
                  have n8_ := Aside0.mk (blk_drew BK220.out)
                  have n9_ := Aside0.mk (below_drew1 HB.out)
                  clear HO_3
                  clear HO_198005
                  clear HO_199005
                  clear HO_210005
                  clear HO_221005
                  clear BK197
                  clear BK198
                  clear BK209
                  clear BK220
                  clear HB
                  have HO_3 := n0_
                  have HO_198005 := n1_
                  have HO_199005 := n2_
                  have HO_210005 := n3_
                  have HO_221005 := n4_
                  have BK197 := n5_
                  have BK198 := n6_
                  have BK209 := n7_
                  have BK220 := n8_
                  have HB := n9_
                  clear n0_ n1_ n2_ n3_ n4_ n5_ n6_ n7_ n8_ n9_
                  refine start_ (n := 4) (S := fun w' => w'.heap[gb209]? = some (.cells #[.int .i64 t200, .int .i64 t201, .int .i64 t202, .int .i64 t203, .int .i64 t204, .slice Ao28 t205.length co28] 35 (0, 0)) ∧ w'.heap[gb220]? = some (.cells #[.int .i64 t211, .int .i64 t212, .int .i64 t213, .int .i64 t214, .int .i64 t215, .slice Ao41 t216.length co41] 35 (0, 0))) (ds := []) #[false, false, false, false] (by kernel_rfl) rfl rfl ⟨BK209.out, BK220.out⟩ (fun hHeld => ?_)
                  generalize wc.drew = w47 at HO_3 HO_198005 HO_199005 HO_210005 HO_221005 BK197 BK198 BK209 BK220 HB hHeld ⊢
                  refine take_ (i := 0) (N := some 56) (v := ?_) (a' := ?_) #[true, false, false, false] rfl rfl (by kernel_rfl) (fun _ _ _ h => h) (Or.inl ⟨by rfl, ?_⟩) hHeld ?_ ?_
                  rotate_left
                  · rintro w' ⟨s0, s1⟩
                    first | (refine laws_FnTwice.lb (x := ?_) ?_ ?_ s0 Try.underlying35 rfl ?_; rotate_left; rfl; rfl; kernel_rfl) | (refine laws_FnTwice.lb (x := ?_) ?_ ?_ s1 Try.underlying35 rfl ?_; rotate_left; rfl; rfl; kernel_rfl) | (have c0_0 := (blk_cell s0 0).trans rfl; have c0_1 := (blk_cell s0 1).trans rfl; have c0_2 := (blk_cell s0 2).trans rfl; have c0_3 := (blk_cell s0 3).trans rfl; have c0_4 := (blk_cell s0 4).trans rfl; have c0_5 := (blk_cell s0 5).trans rfl; have c6_0 := (blk_cell s1 0).trans rfl; have c6_1 := (blk_cell s1 1).trans rfl; have c6_2 := (blk_cell s1 2).trans rfl; have c6_3 := (blk_cell s1 3).trans rfl; have c6_4 := (blk_cell s1 4).trans rfl; have c6_5 := (blk_cell s1 5).trans rfl; go_simp; with_reducible rfl)
                  rotate_left
                  · simp only [Act.put, List.setIfInBounds_toArray, List.set_cons_zero, List.set_cons_succ, i64_w, i32_w]
                    rfl
                  refine take_ (i := 1) (N := some 57) (v := ?_) (a' := ?_) #[true, true, false, false] rfl rfl (by kernel_rfl) (fun _ _ _ h => h) (Or.inl ⟨by rfl, ?_⟩) hHeld ?_ ?_
                  rotate_left
                  · rintro w' ⟨s0, s1⟩
                    first | (refine laws_FnTwice.lb (x := ?_) ?_ ?_ s0 Try.underlying35 rfl ?_; rotate_left; rfl; rfl; kernel_rfl) | (refine laws_FnTwice.lb (x := ?_) ?_ ?_ s1 Try.underlying35 rfl ?_; rotate_left; rfl; rfl; kernel_rfl) | (have c0_0 := (blk_cell s0 0).trans rfl; have c0_1 := (blk_cell s0 1).trans rfl; have c0_2 := (blk_cell s0 2).trans rfl; have c0_3 := (blk_cell s0 3).trans rfl; have c0_4 := (blk_cell s0 4).trans rfl; have c0_5 := (blk_cell s0 5).trans rfl; have c6_0 := (blk_cell s1 0).trans rfl; have c6_1 := (blk_cell s1 1).trans rfl; have c6_2 := (blk_cell s1 2).trans rfl; have c6_3 := (blk_cell s1 3).trans rfl; have c6_4 := (blk_cell s1 4).trans rfl; have c6_5 := (blk_cell s1 5).trans rfl; go_simp; with_reducible rfl)
                  rotate_left
                  · simp only [Act.put, List.setIfInBounds_toArray, List.set_cons_zero, List.set_cons_succ, i64_w, i32_w]
                    rfl
                  refine one_ (i := 2) (N := none) #[true, true, true, false] rfl rfl (by kernel_rfl) (by decide) (fun K hK => ?_)
                  refine skip_ (w1 := ?_) (by rfl) rfl ?_ ?_
                  rotate_left
                  · refine laws_FnTwice.sb6 (x := ?_) (y := ?_) (T := ?_) (u0 := ?_) (u1 := ?_) (u2 := ?_) (u3 := ?_) (u4 := ?_) (u5 := ?_) ?_ ?_ ?_ (by with_reducible first | exact BK197.out | exact laws_FnTwice.bfar6 NB197_198.out BK197.out | exact laws_FnTwice.bfar6 NB197_209.out BK197.out | exact laws_FnTwice.bfar6 NB197_220.out BK197.out) (by rfl) ?_ ?_; rotate_left 9; rfl; rfl; rfl; kernel_rfl; simp [Value.oneCell']
                  refine laws_FnTwice.let_ (fun wq2 hwq2 => ?_)
                  refine hK.out _ _ ⟨(by rw [hwq2]; exact (laws_FnTwice.bfar6 NB209_197.out (hHeld.1))), (by rw [hwq2]; exact (laws_FnTwice.bfar6 NB220_197.out (hHeld.2)))⟩ (fun hHeld => ?_)
                  clear hK K
                  refine one_ (i := 3) (N := none) #[true, true, true, true] rfl rfl (by kernel_rfl) (by decide) (fun K hK => ?_)
                  refine skip_ (w1 := ?_) (by rfl) rfl ?_ ?_
                  rotate_left
                  · refine laws_FnTwice.sb6 (W := wq2) (x := ?_) (y := ?_) (T := ?_) (u0 := ?_) (u1 := ?_) (u2 := ?_) (u3 := ?_) (u4 := ?_) (u5 := ?_) ?_ ?_ ?_ (by with_reducible first | exact BK198.out | exact laws_FnTwice.bfar6 NB198_197.out BK198.out | exact laws_FnTwice.bfar6 NB198_209.out BK198.out | exact laws_FnTwice.bfar6 NB198_220.out BK198.out | (rw [hwq2]; first | exact BK198.out | exact laws_FnTwice.bfar6 NB198_197.out BK198.out | exact laws_FnTwice.bfar6 NB198_209.out BK198.out | exact laws_FnTwice.bfar6 NB198_220.out BK198.out)) (by rfl) ?_ ?_; rotate_left 9; rfl; rfl; rfl; kernel_rfl; simp [Value.oneCell']
                  refine laws_FnTwice.let_ (fun wq3 hwq3 => ?_)
                  refine hK.out _ _ ⟨(by rw [hwq3]; exact (laws_FnTwice.bfar6 NB209_198.out (hHeld.1))), (by rw [hwq3]; exact (laws_FnTwice.bfar6 NB220_198.out (hHeld.2)))⟩ (fun hHeld => ?_)
                  clear hK K
                  refine done_ (by kernel_rfl) ?_
                  subst hwq3
                  subst hwq2
                  go_upto_if 62 with (first | ((with_reducible refine gate_callee (f := 39) rfl ?_); refine goesL_ (some 60) rfl rfl Try.func39 (by kernel_rfl) rfl #[.slice A0 l0.length c0, .int .i64 x7_1] rfl (by (try simp only [List.map_toArray, List.map_cons, List.map_nil]); first | done | rfl | (simp only [List.length_drop, List.length_take]; rfl)) ?_; (with_reducible refine (laws_at.calls _ _ l0 x7_1 t221 _ ?side1 ?side2 A45.out).mono ?_); (case side1 => exact Kd.C_below HR0.out belowNow); (case side2 => exact HC0.out); rintro e w' ⟨rfl, ⟨nd, rfl⟩⟩; refine ⟨_, rfl, ?_⟩))
                  (try simp only [Act.put, List.setIfInBounds_toArray, List.set_cons_zero, List.set_cons_succ])
                  go_cut [6, 11] (fun v6 v11 wc => ∃ (kq : Nat) (x6_45 : Int) (x11_45 : Bool) (x199000_45 : Int) (x199001_45 : Int) (x199002_45 : Int) (x199003_45 : Int) (x199004_45 : Int) (x199005_45 : List (S44)) (u199005 : Value), v6 = .int .i64 x6_45 ∧ v11 = .bool x11_45 ∧ Aside0 (laws_FnTwice.j2 kq l0 t194 x6_45 x7_1 x11_45 t200 t201 t202 t203 t204 t205 x199000_45 x199001_45 x199002_45 x199003_45 x199004_45 x199005_45 = some r) ∧ Aside0 (kq ≤ kj15) ∧ Aside0 (Kd.R k44 44 wc w.heap.size (fun k_ => some k_ ≠ ((.slice Ao28 t205.length co28) : Value).ownBlock ∧ some k_ ≠ (u199005 : Value).ownBlock ∧ some k_ ≠ ((.slice Ao28 t205.length co28) : Value).ownBlock ∧ some k_ ≠ ((.slice Ao41 t216.length co41) : Value).ownBlock) (.slice (some ad199) t194.length co17) t194) ∧ Aside0 (Kd.Q k44 44 wc w.heap.size (fun k_ => some k_ ≠ ((.slice (some ad199) t194.length co17) : Value).ownBlock ∧ some k_ ≠ (u199005 : Value).ownBlock ∧ some k_ ≠ ((.slice Ao41 t216.length co41) : Value).ownBlock) (.slice Ao28 t205.length co28) t205) ∧ Aside0 (Kd.Q k44 44 wc w.heap.size (fun k_ => some k_ ≠ ((.slice (some ad199) t194.length co17) : Value).ownBlock ∧ some k_ ≠ ((.slice Ao28 t205.length co28) : Value).ownBlock ∧ some k_ ≠ ((.slice Ao28 t205.length co28) : Value).ownBlock) u199005 x199005_45) ∧ Aside0 (Kd.Q k44 44 wc w.heap.size (fun k_ => some k_ ≠ ((.slice (some ad199) t194.length co17) : Value).ownBlock ∧ some k_ ≠ (u199005 : Value).ownBlock ∧ some k_ ≠ ((.slice Ao41 t216.length co41) : Value).ownBlock) (.slice Ao28 t205.length co28) t205) ∧ Aside0 (Kd.Q k44 44 wc w.heap.size (fun k_ => some k_ ≠ ((.slice (some ad199) t194.length co17) : Value).ownBlock ∧ some k_ ≠ ((.slice Ao28 t205.length co28) : Value).ownBlock ∧ some k_ ≠ ((.slice Ao28 t205.length co28) : Value).ownBlock) (.slice Ao41 t216.length co41) t216) ∧ Aside0 (wc.heap[gb197]? = some (.cells #[.int .i64 t200, .int .i64 t201, .int .i64 t202, .int .i64 t203, .int .i64 t204, (.slice Ao28 t205.length co28)] 35 (0, 0))) ∧ Aside0 (wc.heap[gb198]? = some (.cells #[.int .i64 x199000_45, .int .i64 x199001_45, .int .i64 x199002_45, .int .i64 x199003_45, .int .i64 x199004_45, u199005] 35 (0, 0))) ∧ Aside0 (wc.heap[gb209]? = some (.cells #[.int .i64 t200, .int .i64 t201, .int .i64 t202, .int .i64 t203, .int .i64 t204, (.slice Ao28 t205.length co28)] 35 (0, 0))) ∧ Aside0 (wc.heap[gb220]? = some (.cells #[.int .i64 t211, .int .i64 t212, .int .i64 t213, .int .i64 t214, .int .i64 t215, (.slice Ao41 t216.length co41)] 35 (0, 0))) ∧ Aside0 (Below w.heap.size w wc))
                  case first =>
                    have H := HC46.out
                    clear HC46
                    by_cases c60 : (Int.tmod t221 2) = 0
                    · rw [if_pos c60] at H
                      have c60b0 : ((Int.tmod t221 2) == 0) = true := beq_iff_eq.mpr c60
                      have c60b1 : ((Int.tmod t221 2) != 0) = false := bne_eq_false_iff_eq.mpr c60
                      clear c60
                      (first | rw [c60b0] | (simp only [i64_w, i32_w]; rw [c60b0]) | (rw [c60b2]; try simp only [Bool.not_false, Bool.not_true]) | skip)
                      by_cases c61 : 0 ≤ x7_1
                      · rw [if_pos c61] at H
                        have c61b0 : decide (0 ≤ x7_1) = true := decide_eq_true c61
                        clear c61
                        by_cases c62 : x7_1 < (t194.length : Int)
                        · rw [if_pos c62] at H
                          have c62b0 : decide (x7_1 < (t194.length : Int)) = true := decide_eq_true c62
                          clear c62
                          replace H := Option.bind_eq_some_iff.mp H
                          obtain ⟨⟨t223, t224, t225, t226, t227, t228, t231⟩, A630, H⟩ := H
                          replace H : (laws_FnTwice.j2 kj15 l0 t194 (wrap64 (x6_1 + 1)) x7_1 t231 t200 t201 t202 t203 t204 t205 t223 t224 t225 t226 t227 t228) = some r := H
                          have A63 := Aside0.mk A630
                          clear A630
                          as_aux_lemma =>
                            have H' := Aside0.mk H
                            clear H
                            try go_wp2
                            obtain ⟨w64, hw64_⟩ : ∃ w_, w_ = (((((((((((((w47.setCell ⟨gb197, 0, none⟩ (.int .i64 t200)).setCell ⟨gb197, 1, none⟩ (.int .i64 t201)).setCell ⟨gb197, 2, none⟩ (.int .i64 t202)).setCell ⟨gb197, 3, none⟩ (.int .i64 t203)).setCell ⟨gb197, 4, none⟩ (.int .i64 t204)).setCell ⟨gb197, 5, none⟩ (.slice Ao28 t205.length co28)).setCell ⟨gb198, 0, none⟩ (.int .i64 t211)).setCell ⟨gb198, 1, none⟩ (.int .i64 t212)).setCell ⟨gb198, 2, none⟩ (.int .i64 t213)).setCell ⟨gb198, 3, none⟩ (.int .i64 t214)).setCell ⟨gb198, 4, none⟩ (.int .i64 t215)).setCell ⟨gb198, 5, none⟩ (.slice Ao41 t216.length co41)).drewN nd) := ⟨_, rfl⟩
                            rw [← hw64_]
                            have n0_ : Aside0 (Kd.R k44 44 w64 w.heap.size (fun k_ => some k_ ≠ (.slice Ao18 x198005_1.length co18 : Value).ownBlock ∧ some k_ ≠ (.slice Ao30 x199005_1.length co30 : Value).ownBlock ∧ some k_ ≠ (.slice Ao28 t205.length co28 : Value).ownBlock ∧ some k_ ≠ (.slice Ao41 t216.length co41 : Value).ownBlock) (.slice (some ad199) t194.length co17) t194) := ⟨by rw [hw64_]; (with_reducible repeat (first | apply Kd.R_alloc | apply Kd.R_drewN | apply Kd.R_drew)); exact Kd.R_mono (Far.rfar6_ (fun _ hk => hk.2) (Far.rfar6_ (fun _ hk => hk.1.2) (Kd.R_types (Kd.R_types HO_3.out BK197.out (by decide)) BK198.out (by decide)))) (fun _ hk => ⟨hk.1.1.1, ⟨hk.1.1.2.1, ⟨hk.1.1.2.2.1, hk.1.1.2.2.2⟩⟩⟩)⟩
                            have n1_ : Aside0 (Kd.Q k44 44 w64 w.heap.size (fun k_ => some k_ ≠ (.slice (some ad199) t194.length co17 : Value).ownBlock ∧ some k_ ≠ (.slice Ao30 x199005_1.length co30 : Value).ownBlock ∧ some k_ ≠ (.slice Ao28 t205.length co28 : Value).ownBlock ∧ some k_ ≠ (.slice Ao41 t216.length co41 : Value).ownBlock) (.slice Ao18 x198005_1.length co18) x198005_1) := ⟨by rw [hw64_]; (with_reducible repeat (first | apply Kd.Q_alloc | apply Kd.Q_drewN | apply Kd.Q_drew)); exact Kd.Q_mono (Far.qfar6_ (fun _ hk => hk.2) (Far.qfar6_ (fun _ hk => hk.1.2) (Kd.Q_types (Kd.Q_types HO_198005.out BK197.out (by decide)) BK198.out (by decide)))) (fun _ hk => ⟨hk.1.1.1, ⟨hk.1.1.2.1, ⟨hk.1.1.2.2.1, hk.1.1.2.2.2⟩⟩⟩)⟩
                            have n2_ : Aside0 (Kd.Q k44 44 w64 w.heap.size (fun k_ => some k_ ≠ (.slice (some ad199) t194.length co17 : Value).ownBlock ∧ some k_ ≠ (.slice Ao18 x198005_1.length co18 : Value).ownBlock ∧ some k_ ≠ (.slice Ao28 t205.length co28 : Value).ownBlock ∧ some k_ ≠ (.slice Ao41 t216.length co41 : Value).ownBlock) (.slice Ao30 x199005_1.length co30) x199005_1) := ⟨by rw [hw64_]; (with_reducible repeat (first | apply Kd.Q_alloc | apply Kd.Q_drewN | apply Kd.Q_drew)); exact Kd.Q_mono (Far.qfar6_ (fun _ hk => hk.2) (Far.qfar6_ (fun _ hk => hk.1.2) (Kd.Q_types (Kd.Q_types HO_199005.out BK197.out (by decide)) BK198.out (by decide)))) (fun _ hk => ⟨hk.1.1.1, ⟨hk.1.1.2.1, ⟨hk.1.1.2.2.1, hk.1.1.2.2.2⟩⟩⟩)⟩
                            have n3_ : Aside0 (Kd.Q k44 44 w64 w.heap.size (fun k_ => some k_ ≠ (.slice (some ad199) t194.length co17 : Value).ownBlock ∧ some k_ ≠ (.slice Ao18 x198005_1.length co18 : Value).ownBlock ∧ some k_ ≠ (.slice Ao30 x199005_1.length co30 : Value).ownBlock ∧ some k_ ≠ (.slice Ao41 t216.length co41 : Value).ownBlock) (.slice Ao28 t205.length co28) t205) := ⟨by rw [hw64_]; (with_reducible repeat (first | apply Kd.Q_alloc | apply Kd.Q_drewN | apply Kd.Q_drew)); exact Kd.Q_mono (Far.qfar6_ (fun _ hk => hk.2) (Far.qfar6_ (fun _ hk => hk.1.2) (Kd.Q_types (Kd.Q_types HO_210005.out BK197.out (by decide)) BK198.out (by decide)))) (fun _ hk => ⟨hk.1.1.1, ⟨hk.1.1.2.1, ⟨hk.1.1.2.2.1, hk.1.1.2.2.2⟩⟩⟩)⟩
                            have n4_ : Aside0 (Kd.Q k44 44 w64 w.heap.size (fun k_ => some k_ ≠ (.slice (some ad199) t194.length co17 : Value).ownBlock ∧ some k_ ≠ (.slice Ao18 x198005_1.length co18 : Value).ownBlock ∧ some k_ ≠ (.slice Ao30 x199005_1.length co30 : Value).ownBlock ∧ some k_ ≠ (.slice Ao28 t205.length co28 : Value).ownBlock) (.slice Ao41 t216.length co41) t216) := ⟨by rw [hw64_]; (with_reducible repeat (first | apply Kd.Q_alloc | apply Kd.Q_drewN | apply Kd.Q_drew)); exact Kd.Q_mono (Far.qfar6_ (fun _ hk => hk.2) (Far.qfar6_ (fun _ hk => hk.1.2) (Kd.Q_types (Kd.Q_types HO_221005.out BK197.out (by decide)) BK198.out (by decide)))) (fun _ hk => ⟨hk.1.1.1, ⟨hk.1.1.2.1, ⟨hk.1.1.2.2.1, hk.1.1.2.2.2⟩⟩⟩)⟩
                            have n5_ : Aside0 (w64.heap[gb197]? = some (.cells #[.int .i64 t200, .int .i64 t201, .int .i64 t202, .int .i64 t203, .int .i64 t204, .slice Ao28 t205.length co28] 35 (0, 0))) := ⟨by rw [hw64_]; (with_reducible repeat (first | refine blk_drewN ?_ _ | refine blk_drew ?_ | refine blk_alloc ?_ _)); refine blk_far ?_ NB197_198.out _; (with_reducible repeat (first | refine blk_drewN ?_ _ | refine blk_drew ?_ | refine blk_alloc ?_ _)); refine blk_far ?_ NB197_198.out _; (with_reducible repeat (first | refine blk_drewN ?_ _ | refine blk_drew ?_ | refine blk_alloc ?_ _)); refine blk_far ?_ NB197_198.out _; (with_reducible repeat (first | refine blk_drewN ?_ _ | refine blk_drew ?_ | refine blk_alloc ?_ _)); refine blk_far ?_ NB197_198.out _; (with_reducible repeat (first | refine blk_drewN ?_ _ | refine blk_drew ?_ | refine blk_alloc ?_ _)); refine blk_far ?_ NB197_198.out _; (with_reducible repeat (first | refine blk_drewN ?_ _ | refine blk_drew ?_ | refine blk_alloc ?_ _)); refine blk_far ?_ NB197_198.out _; (with_reducible repeat (first | refine blk_drewN ?_ _ | refine blk_drew ?_ | refine blk_alloc ?_ _)); refine Far.put6_ #[.int .i64 x198000_1, .int .i64 x198001_1, .int .i64 x198002_1, .int .i64 x198003_1, .int .i64 x198004_1, .slice Ao18 x198005_1.length co18] rfl ?_; (with_reducible repeat (first | refine blk_drewN ?_ _ | refine blk_drew ?_ | refine blk_alloc ?_ _)); exact BK197.out⟩
                            have n6_ : Aside0 (w64.heap[gb198]? = some (.cells #[.int .i64 t211, .int .i64 t212, .int .i64 t213, .int .i64 t214, .int .i64 t215, .slice Ao41 t216.length co41] 35 (0, 0))) := ⟨by rw [hw64_]; (with_reducible repeat (first | refine blk_drewN ?_ _ | refine blk_drew ?_ | refine blk_alloc ?_ _)); refine Far.put6_ #[.int .i64 x199000_1, .int .i64 x199001_1, .int .i64 x199002_1, .int .i64 x199003_1, .int .i64 x199004_1, .slice Ao30 x199005_1.length co30] rfl ?_; (with_reducible repeat (first | refine blk_drewN ?_ _ | refine blk_drew ?_ | refine blk_alloc ?_ _)); refine blk_far ?_ NB198_197.out _; (with_reducible repeat (first | refine blk_drewN ?_ _ | refine blk_drew ?_ | refine blk_alloc ?_ _)); refine blk_far ?_ NB198_197.out _; (with_reducible repeat (first | refine blk_drewN ?_ _ | refine blk_drew ?_ | refine blk_alloc ?_ _)); refine blk_far ?_ NB198_197.out _; (with_reducible repeat (first | refine blk_drewN ?_ _ | refine blk_drew ?_ | refine blk_alloc ?_ _)); refine blk_far ?_ NB198_197.out _; (with_reducible repeat (first | refine blk_drewN ?_ _ | refine blk_drew ?_ | refine blk_alloc ?_ _)); refine blk_far ?_ NB198_197.out _; (with_reducible repeat (first | refine blk_drewN ?_ _ | refine blk_drew ?_ | refine blk_alloc ?_ _)); refine blk_far ?_ NB198_197.out _; (with_reducible repeat (first | refine blk_drewN ?_ _ | refine blk_drew ?_ | refine blk_alloc ?_ _)); exact BK198.out⟩
                            have n7_ : Aside0 (w64.heap[gb209]? = some (.cells #[.int .i64 t200, .int .i64 t201, .int .i64 t202, .int .i64 t203, .int .i64 t204, .slice Ao28 t205.length co28] 35 (0, 0))) := ⟨by rw [hw64_]; (with_reducible repeat (first | refine blk_drewN ?_ _ | refine blk_drew ?_ | refine blk_alloc ?_ _)); refine blk_far ?_ NB209_198.out _; (with_reducible repeat (first | refine blk_drewN ?_ _ | refine blk_drew ?_ | refine blk_alloc ?_ _)); refine blk_far ?_ NB209_198.out _; (with_reducible repeat (first | refine blk_drewN ?_ _ | refine blk_drew ?_ | refine blk_alloc ?_ _)); refine blk_far ?_ NB209_198.out _; (with_reducible repeat (first | refine blk_drewN ?_ _ | refine blk_drew ?_ | refine blk_alloc ?_ _)); refine blk_far ?_ NB209_198.out _; (with_reducible repeat (first | refine blk_drewN ?_ _ | refine blk_drew ?_ | refine blk_alloc ?_ _)); refine blk_far ?_ NB209_198.out _; (with_reducible repeat (first | refine blk_drewN ?_ _ | refine blk_drew ?_ | refine blk_alloc ?_ _)); refine blk_far ?_ NB209_198.out _; (with_reducible repeat (first | refine blk_drewN ?_ _ | refine blk_drew ?_ | refine blk_alloc ?_ _)); refine blk_far ?_ NB209_197.out _; (with_reducible repeat (first | refine blk_drewN ?_ _ | refine blk_drew ?_ | refine blk_alloc ?_ _)); refine blk_far ?_ NB209_197.out _; (with_reducible repeat (first | refine blk_drewN ?_ _ | refine blk_drew ?_ | refine blk_alloc ?_ _)); refine blk_far ?_ NB209_197.out _; (with_reducible repeat (first | refine blk_drewN ?_ _ | refine blk_drew ?_ | refine blk_alloc ?_ _)); refine blk_far ?_ NB209_197.out _; (with_reducible repeat (first | refine blk_drewN ?_ _ | refine blk_drew ?_ | refine blk_alloc ?_ _)); refine blk_far ?_ NB209_197.out _; (with_reducible repeat (first | refine blk_drewN ?_ _ | refine blk_drew ?_ | refine blk_alloc ?_ _)); refine blk_far ?_ NB209_197.out _; (with_reducible repeat (first | refine blk_drewN ?_ _ | refine blk_drew ?_ | refine blk_alloc ?_ _)); exact BK209.out⟩
                            have n8_ : Aside0 (w64.heap[gb220]? = some (.cells #[.int .i64 t211, .int .i64 t212, .int .i64 t213, .int .i64 t214, .int .i64 t215, .slice Ao41 t216.length co41] 35 (0, 0))) := ⟨by rw [hw64_]; (with_reducible repeat (first | refine blk_drewN ?_ _ | refine blk_drew ?_ | refine blk_alloc ?_ _)); refine blk_far ?_ NB220_198.out _; (with_reducible repeat (first | refine blk_drewN ?_ _ | refine blk_drew ?_ | refine blk_alloc ?_ _)); refine blk_far ?_ NB220_198.out _; (with_reducible repeat (first | refine blk_drewN ?_ _ | refine blk_drew ?_ | refine blk_alloc ?_ _)); refine blk_far ?_ NB220_198.out _; (with_reducible repeat (first | refine blk_drewN ?_ _ | refine blk_drew ?_ | refine blk_alloc ?_ _)); refine blk_far ?_ NB220_198.out _; (with_reducible repeat (first | refine blk_drewN ?_ _ | refine blk_drew ?_ | refine blk_alloc ?_ _)); refine blk_far ?_ NB220_198.out _; (with_reducible repeat (first | refine blk_drewN ?_ _ | refine blk_drew ?_ | refine blk_alloc ?_ _)); refine blk_far ?_ NB220_198.out _; (with_reducible repeat (first | refine blk_drewN ?_ _ | refine blk_drew ?_ | refine blk_alloc ?_ _)); refine blk_far ?_ NB220_197.out _; (with_reducible repeat (first | refine blk_drewN ?_ _ | refine blk_drew ?_ | refine blk_alloc ?_ _)); refine blk_far ?_ NB220_197.out _; (with_reducible repeat (first | refine blk_drewN ?_ _ | refine blk_drew ?_ | refine blk_alloc ?_ _)); refine blk_far ?_ NB220_197.out _; (with_reducible repeat (first | refine blk_drewN ?_ _ | refine blk_drew ?_ | refine blk_alloc ?_ _)); refine blk_far ?_ NB220_197.out _; (with_reducible repeat (first | refine blk_drewN ?_ _ | refine blk_drew ?_ | refine blk_alloc ?_ _)); refine blk_far ?_ NB220_197.out _; (with_reducible repeat (first | refine blk_drewN ?_ _ | refine blk_drew ?_ | refine blk_alloc ?_ _)); refine blk_far ?_ NB220_197.out _; (with_reducible repeat (first | refine blk_drewN ?_ _ | refine blk_drew ?_ | refine blk_alloc ?_ _)); exact BK220.out⟩
                            have n9_ : Aside0 (Below w.heap.size w w64) := ⟨by rw [hw64_]; repeat (first | (with_reducible first | exact HB.out | apply below_alloc | apply pw_below_drewN | apply below_drew1 | refine below_set ?_ GE197.out | refine below_set ?_ GE198.out | refine below_set ?_ GE209.out | refine below_set ?_ GE220.out) | exact HB.out)⟩
                            clear hw64_
                            (try clear HO_3)
                            (try clear HO_198005)
                            (try clear HO_199005)
                            (try clear HO_210005)
                            (try clear HO_221005)
                            (try clear BK197)
                            (try clear BK198)
                            (try clear BK209)
                            (try clear BK220)
                            (try clear HB)
                            have HO_3 := n0_
                            have HO_198005 := n1_
                            have HO_199005 := n2_
                            have HO_210005 := n3_
                            have HO_221005 := n4_
                            have BK197 := n5_
                            have BK198 := n6_
                            have BK209 := n7_
                            have BK220 := n8_
                            have HB := n9_
                            clear n0_ n1_ n2_ n3_ n4_ n5_ n6_ n7_ n8_ n9_
                            have n0_ := Aside0.mk (Kd.R_drew HO_3.out)
                            have n1_ := Aside0.mk (Kd.Q_drew HO_198005.out)
                            have n2_ := Aside0.mk (Kd.Q_drew HO_199005.out)
                            have n3_ := Aside0.mk (Kd.Q_drew HO_210005.out)
                            have n4_ := Aside0.mk (Kd.Q_drew HO_221005.out)
                            have n5_ := Aside0.mk (blk_drew BK197.out)
                            have n6_ := Aside0.mk (blk_drew BK198.out)
                            have n7_ := Aside0.mk (blk_drew BK209.out)
                            have n8_ := Aside0.mk (blk_drew BK220.out)
                            have n9_ := Aside0.mk (below_drew1 HB.out)
                            clear HO_3
                            clear HO_198005
                            clear HO_199005
                            clear HO_210005
                            clear HO_221005
                            clear BK197
                            clear BK198
                            clear BK209
                            clear BK220
                            clear HB
                            have HO_3 := n0_
                            have HO_198005 := n1_
                            have HO_199005 := n2_
                            have HO_210005 := n3_
                            have HO_221005 := n4_
                            have BK197 := n5_
                            have BK198 := n6_
                            have BK209 := n7_
                            have BK220 := n8_
                            have HB := n9_
                            clear n0_ n1_ n2_ n3_ n4_ n5_ n6_ n7_ n8_ n9_
                            have p222 : 0 ≤ (x7_1 : Int) := of_decide_eq_true (by first | (with_reducible assumption) | assumption)
                            have q222 : x7_1 < (t194.length : Int) := of_decide_eq_true (by first | (with_reducible assumption) | assumption)
                            obtain ⟨ad222, e222, hx222_0⟩ := laws_FnTwice.at_ (Kd.R_reads' HO_3.out).2.2 x7_1 p222 q222
                            obtain rfl : ad199 = ad222 := (by injection e222)
                            replace p222 := eq_true p222
                            replace q222 := eq_true q222
                            refine start_ (n := 11) (S := fun w' => w'.heap[gb198]? = some (.cells #[.int .i64 t211, .int .i64 t212, .int .i64 t213, .int .i64 t214, .int .i64 t215, .slice Ao41 t216.length co41] 35 (0, 0)) ∧ laws_FnTwice.Held w' (ad199.add ((x7_1).toNat * 18)) (rd_T44 t194 x7_1)) (ds := [9]) #[false, false, false, false, false, false, false, false, false, false, false] (by kernel_rfl) rfl rfl ⟨BK198.out, hx222_0⟩ (fun hHeld => ?_); refine with_tabW laws_FnTwice.tab16 laws_FnTwice.bits16 (fun HT_ HW_ => ?_)
                            generalize w64.drew = w65 at HO_3 HO_198005 HO_199005 HO_210005 HO_221005 BK197 BK198 BK209 BK220 HB hx222_0 hHeld ⊢
                            refine pure_ (i := 1) (N := some 65) (v := ?_) (a' := ?_) #[false, true, false, false, false, false, false, false, false, false, false] rfl rfl (any_of HT_.out (by kernel_rfl)) (fun _ _ _ h => h) (Or.inl ⟨by rfl, ?_⟩) ?_ ?_
                            rotate_left
                            · intro w'
                              go_simp
                              with_reducible rfl
                            rotate_left
                            · simp only [Act.put, List.setIfInBounds_toArray, List.set_cons_zero, List.set_cons_succ, i64_w, i32_w]
                              rfl
                            refine pure_ (i := 2) (N := some 66) (v := ?_) (a' := ?_) #[false, true, true, false, false, false, false, false, false, false, false] rfl rfl (any_of HT_.out (by kernel_rfl)) (fun _ _ _ h => h) (Or.inl ⟨by rfl, ?_⟩) ?_ ?_
                            rotate_left
                            · intro w'
                              go_simp
                              with_reducible rfl
                            rotate_left
                            · simp only [Act.put, List.setIfInBounds_toArray, List.set_cons_zero, List.set_cons_succ, i64_w, i32_w]
                              rfl
                            refine pure_ (i := 3) (N := some 67) (v := ?_) (a' := ?_) #[false, true, true, true, false, false, false, false, false, false, false] rfl rfl (any_of HT_.out (by kernel_rfl)) (fun _ _ _ h => h) (Or.inl ⟨by rfl, ?_⟩) ?_ ?_
                            rotate_left
                            · intro w'
                              go_simp
                              with_reducible rfl
                            rotate_left
                            · simp only [Act.put, List.setIfInBounds_toArray, List.set_cons_zero, List.set_cons_succ, i64_w, i32_w]
                              rfl
                            refine take_ (i := 0) (N := some 64) (v := ?_) (a' := ?_) #[true, true, true, true, false, false, false, false, false, false, false] rfl rfl (take_ofW HT_.out HW_.out (by kernel_rfl)) (fun _ _ _ h => h) (Or.inl ⟨by rfl, ?_⟩) hHeld ?_ ?_
                            rotate_left
                            · rintro w' ⟨s0, s1⟩
                              first | (refine Arl.loads (x := ?_) (ad := (ad199.add ((x7_1).toNat * 18))) (S := fun W => laws_FnTwice.Held W (ad199.add ((x7_1).toNat * 18)) (rd_T44 t194 x7_1)) (cl := laws_FnTwice.E (rd_T44 t194 x7_1)) ?_ ?_ (fun W hS => hS) Try.underlying44 rfl ?_ w' s1; rotate_left; rfl; rfl; kernel_rfl) | (refine laws_FnTwice.lb (x := ?_) ?_ ?_ s0 Try.underlying35 rfl ?_; rotate_left; rfl; rfl; kernel_rfl) | (have c0_0 := (blk_cell s0 0).trans rfl; have c0_1 := (blk_cell s0 1).trans rfl; have c0_2 := (blk_cell s0 2).trans rfl; have c0_3 := (blk_cell s0 3).trans rfl; have c0_4 := (blk_cell s0 4).trans rfl; have c0_5 := (blk_cell s0 5).trans rfl; go_simp; with_reducible rfl)
                            rotate_left
                            · simp only [Act.put, List.setIfInBounds_toArray, List.set_cons_zero, List.set_cons_succ, i64_w, i32_w]
                              rfl
                            refine take_ (i := 4) (N := some 68) (v := ?_) (a' := ?_) #[true, true, true, true, true, false, false, false, false, false, false] rfl rfl (take_ofW HT_.out HW_.out (by kernel_rfl)) (fun _ _ _ h => h) (Or.inl ⟨by rfl, ?_⟩) hHeld ?_ ?_
                            rotate_left
                            · rintro w' ⟨s0, s1⟩
                              first | (refine Arl.loads (x := ?_) (ad := (ad199.add ((x7_1).toNat * 18))) (S := fun W => laws_FnTwice.Held W (ad199.add ((x7_1).toNat * 18)) (rd_T44 t194 x7_1)) (cl := laws_FnTwice.E (rd_T44 t194 x7_1)) ?_ ?_ (fun W hS => hS) Try.underlying44 rfl ?_ w' s1; rotate_left; rfl; rfl; kernel_rfl) | (refine laws_FnTwice.lb (x := ?_) ?_ ?_ s0 Try.underlying35 rfl ?_; rotate_left; rfl; rfl; kernel_rfl) | (have c0_0 := (blk_cell s0 0).trans rfl; have c0_1 := (blk_cell s0 1).trans rfl; have c0_2 := (blk_cell s0 2).trans rfl; have c0_3 := (blk_cell s0 3).trans rfl; have c0_4 := (blk_cell s0 4).trans rfl; have c0_5 := (blk_cell s0 5).trans rfl; go_simp; with_reducible rfl)
                            rotate_left
                            · simp only [Act.put, List.setIfInBounds_toArray, List.set_cons_zero, List.set_cons_succ, i64_w, i32_w]
                              rfl
                            refine one_ (i := 5) (N := some 69) #[true, true, true, true, true, true, false, false, false, false, false] rfl rfl (one_of HT_.out (by kernel_rfl)) (by decide) (fun K hK => ?_)
                            refine goes_ Try.func26 (by kernel_rfl) rfl #[.agg #[.int .i64 t211, .int .i64 t212, .int .i64 t213, .int .i64 t214, .int .i64 t215, .slice Ao41 t216.length co41], .agg #[.int .i64 ((rd_T44 t194 x7_1).f0), .int .i64 ((rd_T44 t194 x7_1).f1), .int .u8 ((rd_T44 t194 x7_1).f2.f0), .int .u8 ((rd_T44 t194 x7_1).f2.f1), .int .u8 ((rd_T44 t194 x7_1).f2.f2), .int .u8 ((rd_T44 t194 x7_1).f2.f3), .int .u8 ((rd_T44 t194 x7_1).f2.f4), .int .u8 ((rd_T44 t194 x7_1).f2.f5), .int .u8 ((rd_T44 t194 x7_1).f2.f6), .int .u8 ((rd_T44 t194 x7_1).f2.f7), .int .u8 ((rd_T44 t194 x7_1).f2.f8), .int .u8 ((rd_T44 t194 x7_1).f2.f9), .int .u8 ((rd_T44 t194 x7_1).f2.f10), .int .u8 ((rd_T44 t194 x7_1).f2.f11), .int .u8 ((rd_T44 t194 x7_1).f2.f12), .int .u8 ((rd_T44 t194 x7_1).f2.f13), .int .u8 ((rd_T44 t194 x7_1).f2.f14), .int .u8 ((rd_T44 t194 x7_1).f2.f15)]] (by rfl) rfl rfl (by (try simp only [List.map_toArray, List.map_cons, List.map_nil]); first | done | rfl | (simp only [List.length_drop, List.length_take]; rfl)) ?_
                            with_reducible refine (impl_Put.calls kj15 t211 t212 t213 t214 t215 _ _ t216 ((rd_T44 t194 x7_1).f0) ((rd_T44 t194 x7_1).f1) ((rd_T44 t194 x7_1).f2.f0) ((rd_T44 t194 x7_1).f2.f1) ((rd_T44 t194 x7_1).f2.f2) ((rd_T44 t194 x7_1).f2.f3) ((rd_T44 t194 x7_1).f2.f4) ((rd_T44 t194 x7_1).f2.f5) ((rd_T44 t194 x7_1).f2.f6) ((rd_T44 t194 x7_1).f2.f7) ((rd_T44 t194 x7_1).f2.f8) ((rd_T44 t194 x7_1).f2.f9) ((rd_T44 t194 x7_1).f2.f10) ((rd_T44 t194 x7_1).f2.f11) ((rd_T44 t194 x7_1).f2.f12) ((rd_T44 t194 x7_1).f2.f13) ((rd_T44 t194 x7_1).f2.f14) ((rd_T44 t194 x7_1).f2.f15) t223 t224 t225 t226 t227 t228 t231 _ ?side1 ?side2 A63.out).mono ?_
                            (case side1 => repeat (first | exact (Kd.Q_reads' HO_221005.out).2.2 | (with_reducible refine Kd.C_alloc ?_ _) | (with_reducible refine Kd.C_drewN ?_ _) | (with_reducible refine Kd.C_drew ?_)))
                            (case side2 => exact (Kd.Q_reads' HO_221005.out).2.1)
                            rintro e w66 ⟨v229, rfl, ho0, hb⟩
                            have HS6_ := laws_FnTwice.Held_b hb rfl (hHeld.2)
                            refine ⟨_, rfl, ?_⟩
                            have n0_ := Aside0.mk (Kd.R_elder' (by (with_reducible repeat (first | apply Kd.R_alloc | apply Kd.R_drewN | apply Kd.R_drew)); exact HO_3.out) (Kd.R_base ho0) hb)
                            have n1_ := Aside0.mk (Kd.Q_elder' (by (with_reducible repeat (first | apply Kd.Q_alloc | apply Kd.Q_drewN | apply Kd.Q_drew)); exact HO_198005.out) (Kd.R_base ho0) hb)
                            have n2_ := Aside0.mk (Kd.Q_elder' (by (with_reducible repeat (first | apply Kd.Q_alloc | apply Kd.Q_drewN | apply Kd.Q_drew)); exact HO_199005.out) (Kd.R_base ho0) hb)
                            have n3_ := Aside0.mk (Kd.Q_elder' (by (with_reducible repeat (first | apply Kd.Q_alloc | apply Kd.Q_drewN | apply Kd.Q_drew)); exact HO_210005.out) (Kd.R_base ho0) hb)
                            have n4_ := Aside0.mk (Kd.Q_elder' (by (with_reducible repeat (first | apply Kd.Q_alloc | apply Kd.Q_drewN | apply Kd.Q_drew)); exact HO_221005.out) (Kd.R_base ho0) hb)
                            have n5_ := Aside0.mk (Kd.R_lower (Kd.R_new' (Kd.R_new' (Kd.R_new' (Kd.R_new' (Kd.R_new' ho0 (Kd.R_lt (by (with_reducible repeat (first | apply Kd.R_alloc | apply Kd.R_drewN | apply Kd.R_drew)); exact HO_3.out))) (Kd.Q_lt (by (with_reducible repeat (first | apply Kd.Q_alloc | apply Kd.Q_drewN | apply Kd.Q_drew)); exact HO_198005.out))) (Kd.Q_lt (by (with_reducible repeat (first | apply Kd.Q_alloc | apply Kd.Q_drewN | apply Kd.Q_drew)); exact HO_199005.out))) (Kd.Q_lt (by (with_reducible repeat (first | apply Kd.Q_alloc | apply Kd.Q_drewN | apply Kd.Q_drew)); exact HO_210005.out))) (Kd.Q_lt (by (with_reducible repeat (first | apply Kd.Q_alloc | apply Kd.Q_drewN | apply Kd.Q_drew)); exact HO_221005.out))) (below_size belowNow))
                            have n6_ := Aside0.mk (blkStep (g := gb197) hb)
                            have n7_ := Aside0.mk (blkStep (g := gb198) hb)
                            have n8_ := Aside0.mk (blkStep (g := gb209) hb)
                            have n9_ := Aside0.mk (blkStep (g := gb220) hb)
                            have n10_ := Aside0.mk (below_step belowNow hb)
                            clear HO_3
                            clear HO_198005
                            clear HO_199005
                            clear HO_210005
                            clear HO_221005
                            clear BK197
                            clear BK198
                            clear BK209
                            clear BK220
                            clear HB
                            have HO_3 := n0_
                            have HO_198005 := n1_
                            have HO_199005 := n2_
                            have HO_210005 := n3_
                            have HO_221005 := n4_
                            have HO230 := n5_
                            have BK197 := n6_
                            have BK198 := n7_
                            have BK209 := n8_
                            have BK220 := n9_
                            have HB := n10_
                            clear n0_ n1_ n2_ n3_ n4_ n5_ n6_ n7_ n8_ n9_ n10_
                            (try clear hb)
                            (try clear hb2)
                            (try clear hk)
                            (try clear hi)
                            (try clear ho0)
                            obtain ⟨Ao72, co72, eo72⟩ := Kd.R_slice HO230.out
                            (first | subst eo72 | (injection eo72 with f1_ f2_ f3_; have f4_ := f1_.symm; have f5_ := f3_.symm; clear f1_ f2_ f3_; subst f4_; subst f5_))
                            refine hK.out _ _ ⟨BK198.out, HS6_⟩ (fun hHeld => ?_)
                            clear hK K
                            refine norm_ (a' := ?_) ?_ ?_
                            rotate_left
                            · show Act.put _ (some 69) _ = _
                              simp only [Act.put, List.setIfInBounds_toArray, List.set_cons_zero, List.set_cons_succ, i64_w, i32_w]
                              rfl
                            refine pure_ (i := 6) (N := some 63) (v := ?_) (a' := ?_) #[true, true, true, true, true, true, true, false, false, false, false] rfl rfl (any_of HT_.out (by kernel_rfl)) (fun _ _ _ h => h) (Or.inl ⟨by rfl, ?_⟩) ?_ ?_
                            rotate_left
                            · intro w'
                              go_simp
                              with_reducible rfl
                            rotate_left
                            · simp only [Act.put, List.setIfInBounds_toArray, List.set_cons_zero, List.set_cons_succ, i64_w, i32_w]
                              rfl
                            refine pure_ (i := 7) (N := some 70) (v := ?_) (a' := ?_) #[true, true, true, true, true, true, true, true, false, false, false] rfl rfl (any_of HT_.out (by kernel_rfl)) (fun _ _ _ h => h) (Or.inl ⟨by rfl, ?_⟩) ?_ ?_
                            rotate_left
                            · intro w'
                              go_simp
                              with_reducible rfl
                            rotate_left
                            · simp only [Act.put, List.setIfInBounds_toArray, List.set_cons_zero, List.set_cons_succ, i64_w, i32_w]
                              rfl
                            refine pure_ (i := 8) (N := some 71) (v := ?_) (a' := ?_) #[true, true, true, true, true, true, true, true, true, false, false] rfl rfl (any_of HT_.out (by kernel_rfl)) (fun _ _ _ h => h) (Or.inl ⟨by rfl, ?_⟩) ?_ ?_
                            rotate_left
                            · intro w'
                              go_simp
                              with_reducible rfl
                            rotate_left
                            · simp only [Act.put, List.setIfInBounds_toArray, List.set_cons_zero, List.set_cons_succ, i64_w, i32_w]
                              rfl
                            refine last_ (i := 9) (N := none) #[true, true, true, true, true, true, true, true, true, true, false] rfl rfl (one_of HT_.out (by kernel_rfl)) (by decide) (fun K hK => ?_)
                            refine skip_ (w1 := ?_) (by rfl) rfl ?_ ?_
                            rotate_left
                            · refine laws_FnTwice.sb6 (x := ?_) (y := ?_) (T := ?_) (u0 := ?_) (u1 := ?_) (u2 := ?_) (u3 := ?_) (u4 := ?_) (u5 := ?_) ?_ ?_ ?_ (by with_reducible first | exact BK198.out | exact laws_FnTwice.bfar6 NB198_197.out BK198.out | exact laws_FnTwice.bfar6 NB198_209.out BK198.out | exact laws_FnTwice.bfar6 NB198_220.out BK198.out) (by rfl) ?_ ?_; rotate_left 9; rfl; rfl; rfl; kernel_rfl; simp [Value.oneCell']
                            refine laws_FnTwice.let_ (fun wq4 hwq4 => ?_)
                            refine hK.out _ _ ?_
                            clear hK K
                            refine pure_ (i := 10) (N := some 11) (v := ?_) (a' := ?_) #[true, true, true, true, true, true, true, true, true, true, true] rfl rfl (any_of HT_.out (by kernel_rfl)) (fun _ _ _ h => h) (Or.inl ⟨by rfl, ?_⟩) ?_ ?_
                            rotate_left
                            · intro w'
                              go_simp
                              with_reducible rfl
                            rotate_left
                            · simp only [Act.put, List.setIfInBounds_toArray, List.set_cons_zero, List.set_cons_succ, i64_w, i32_w]
                              rfl
                            refine done_ (done_of HT_.out (by kernel_rfl)) ?_
                            subst hwq4
                            try go_wp2
                            go_meet
                            case rel => exact ⟨_, (wrap64 (x6_1 + 1)), (t231), (t223), (t224), (t225), (t226), (t227), (t228), (.slice Ao72 t228.length co72), (by first | rfl | (simp; done) | (simp [*]; done)), (by first | rfl | (simp; done) | (simp [*]; done)), H', ⟨by have := HK1.out; have := HJ15.out; first | omega | exact Nat.le_refl _⟩, ⟨by (with_reducible repeat (first | apply Kd.R_alloc | apply Kd.R_drewN | apply Kd.R_drew)); exact Kd.R_mono (Far.rfar6_ (fun _ hk => hk.2) (Kd.R_types HO_3.out BK198.out (by decide))) (fun _ hk => by first | exact ⟨hk.1.1.2.2.1, ⟨hk.1.2, ⟨hk.1.1.2.2.1, hk.1.1.2.2.2⟩⟩⟩ | simp [hk])⟩, ⟨by (with_reducible repeat (first | apply Kd.Q_alloc | apply Kd.Q_drewN | apply Kd.Q_drew)); exact Kd.Q_mono (Far.qfar6_ (fun _ hk => hk.2) (Kd.Q_types HO_210005.out BK198.out (by decide))) (fun _ hk => by first | exact ⟨hk.1.1.1, ⟨hk.1.2, hk.1.1.2.2.2⟩⟩ | simp [hk])⟩, ⟨Kd.Q_of_R (by (with_reducible repeat (first | apply Kd.R_alloc | apply Kd.R_drewN | apply Kd.R_drew)); exact Kd.R_mono (Far.rfar6_ (fun _ hk => hk.2) (Kd.R_types HO230.out BK198.out (by decide))) (fun _ hk => by first | exact ⟨hk.1.1.1.1.1.2, ⟨hk.1.1.2, ⟨hk.1.1.2, hk.1.2⟩⟩⟩ | simp [hk]))⟩, ⟨by (with_reducible repeat (first | apply Kd.Q_alloc | apply Kd.Q_drewN | apply Kd.Q_drew)); exact Kd.Q_mono (Far.qfar6_ (fun _ hk => hk.2) (Kd.Q_types HO_210005.out BK198.out (by decide))) (fun _ hk => by first | exact ⟨hk.1.1.1, ⟨hk.1.2, hk.1.1.2.2.2⟩⟩ | simp [hk])⟩, ⟨by (with_reducible repeat (first | apply Kd.Q_alloc | apply Kd.Q_drewN | apply Kd.Q_drew)); exact Kd.Q_mono (Far.qfar6_ (fun _ hk => hk.2) (Kd.Q_types HO_221005.out BK198.out (by decide))) (fun _ hk => by first | exact ⟨hk.1.1.1, ⟨hk.1.1.2.2.2, ⟨hk.1.2, hk.1.1.2.2.2⟩⟩⟩ | simp [hk])⟩, ⟨blkFars⟩, ⟨by (with_reducible repeat (first | refine blk_drewN ?_ _ | refine blk_drew ?_ | refine blk_alloc ?_ _)); refine Far.put6_ #[.int .i64 t211, .int .i64 t212, .int .i64 t213, .int .i64 t214, .int .i64 t215, .slice Ao41 t216.length co41] rfl ?_; (with_reducible repeat (first | refine blk_drewN ?_ _ | refine blk_drew ?_ | refine blk_alloc ?_ _)); exact BK198.out⟩, ⟨blkFars⟩, ⟨blkFars⟩, ⟨belowNow⟩⟩
                        · rw [if_neg c62] at H
                          exact absurd H (by simp)
                      · rw [if_neg c61] at H
                        exact absurd H (by simp)
                    · rw [if_neg c60] at H
                      have c60b0 : ((Int.tmod t221 2) == 0) = false := beq_eq_false_iff_ne.mpr c60
                      have c60b1 : ((Int.tmod t221 2) != 0) = true := bne_iff_ne.mpr c60
                      (first | rw [c60b0] | (simp only [i64_w, i32_w]; rw [c60b0]) | (rw [c60b2]; try simp only [Bool.not_false, Bool.not_true]) | skip)
                      as_aux_lemma =>
                        have H' := Aside0.mk H
                        clear H
                        go_wp2
                        go_meet
                        case rel => exact ⟨_, (x6_1), (t219), (t211), (t212), (t213), (t214), (t215), (t216), (.slice Ao41 t216.length co41), (by first | rfl | (simp; done) | (simp [*]; done)), (by first | rfl | (simp; done) | (simp [*]; done)), H', ⟨by have := HK1.out; have := HJ15.out; first | omega | exact Nat.le_refl _⟩, ⟨by (with_reducible repeat (first | apply Kd.R_alloc | apply Kd.R_drewN | apply Kd.R_drew)); exact Kd.R_mono (Far.rfar6_ (fun _ hk => hk.2) (Far.rfar6_ (fun _ hk => hk.1.2) (Kd.R_types (Kd.R_types HO_3.out BK197.out (by decide)) BK198.out (by decide)))) (fun _ hk => by first | exact ⟨hk.1.1.2.2.1, ⟨hk.1.1.2.2.2, ⟨hk.1.1.2.2.1, hk.1.1.2.2.2⟩⟩⟩ | simp [hk])⟩, ⟨by (with_reducible repeat (first | apply Kd.Q_alloc | apply Kd.Q_drewN | apply Kd.Q_drew)); exact Kd.Q_mono (Far.qfar6_ (fun _ hk => hk.2) (Far.qfar6_ (fun _ hk => hk.1.2) (Kd.Q_types (Kd.Q_types HO_210005.out BK197.out (by decide)) BK198.out (by decide)))) (fun _ hk => by first | exact ⟨hk.1.1.1, ⟨hk.1.1.2.2.2, hk.1.1.2.2.2⟩⟩ | simp [hk])⟩, ⟨by (with_reducible repeat (first | apply Kd.Q_alloc | apply Kd.Q_drewN | apply Kd.Q_drew)); exact Kd.Q_mono (Far.qfar6_ (fun _ hk => hk.2) (Far.qfar6_ (fun _ hk => hk.1.2) (Kd.Q_types (Kd.Q_types HO_221005.out BK197.out (by decide)) BK198.out (by decide)))) (fun _ hk => by first | exact ⟨hk.1.1.1, ⟨hk.1.1.2.2.2, hk.1.1.2.2.2⟩⟩ | simp [hk])⟩, ⟨by (with_reducible repeat (first | apply Kd.Q_alloc | apply Kd.Q_drewN | apply Kd.Q_drew)); exact Kd.Q_mono (Far.qfar6_ (fun _ hk => hk.2) (Far.qfar6_ (fun _ hk => hk.1.2) (Kd.Q_types (Kd.Q_types HO_210005.out BK197.out (by decide)) BK198.out (by decide)))) (fun _ hk => by first | exact ⟨hk.1.1.1, ⟨hk.1.1.2.2.2, hk.1.1.2.2.2⟩⟩ | simp [hk])⟩, ⟨by (with_reducible repeat (first | apply Kd.Q_alloc | apply Kd.Q_drewN | apply Kd.Q_drew)); exact Kd.Q_mono (Far.qfar6_ (fun _ hk => hk.2) (Far.qfar6_ (fun _ hk => hk.1.2) (Kd.Q_types (Kd.Q_types HO_221005.out BK197.out (by decide)) BK198.out (by decide)))) (fun _ hk => by first | exact ⟨hk.1.1.1, ⟨hk.1.1.2.2.2, hk.1.1.2.2.2⟩⟩ | simp [hk])⟩, ⟨by (with_reducible repeat (first | refine blk_drewN ?_ _ | refine blk_drew ?_ | refine blk_alloc ?_ _)); refine blk_far ?_ NB197_198.out _; (with_reducible repeat (first | refine blk_drewN ?_ _ | refine blk_drew ?_ | refine blk_alloc ?_ _)); refine blk_far ?_ NB197_198.out _; (with_reducible repeat (first | refine blk_drewN ?_ _ | refine blk_drew ?_ | refine blk_alloc ?_ _)); refine blk_far ?_ NB197_198.out _; (with_reducible repeat (first | refine blk_drewN ?_ _ | refine blk_drew ?_ | refine blk_alloc ?_ _)); refine blk_far ?_ NB197_198.out _; (with_reducible repeat (first | refine blk_drewN ?_ _ | refine blk_drew ?_ | refine blk_alloc ?_ _)); refine blk_far ?_ NB197_198.out _; (with_reducible repeat (first | refine blk_drewN ?_ _ | refine blk_drew ?_ | refine blk_alloc ?_ _)); refine blk_far ?_ NB197_198.out _; (with_reducible repeat (first | refine blk_drewN ?_ _ | refine blk_drew ?_ | refine blk_alloc ?_ _)); refine Far.put6_ #[.int .i64 x198000_1, .int .i64 x198001_1, .int .i64 x198002_1, .int .i64 x198003_1, .int .i64 x198004_1, .slice Ao18 x198005_1.length co18] rfl ?_; (with_reducible repeat (first | refine blk_drewN ?_ _ | refine blk_drew ?_ | refine blk_alloc ?_ _)); exact BK197.out⟩, ⟨by (with_reducible repeat (first | refine blk_drewN ?_ _ | refine blk_drew ?_ | refine blk_alloc ?_ _)); refine Far.put6_ #[.int .i64 x199000_1, .int .i64 x199001_1, .int .i64 x199002_1, .int .i64 x199003_1, .int .i64 x199004_1, .slice Ao30 x199005_1.length co30] rfl ?_; (with_reducible repeat (first | refine blk_drewN ?_ _ | refine blk_drew ?_ | refine blk_alloc ?_ _)); refine blk_far ?_ NB198_197.out _; (with_reducible repeat (first | refine blk_drewN ?_ _ | refine blk_drew ?_ | refine blk_alloc ?_ _)); refine blk_far ?_ NB198_197.out _; (with_reducible repeat (first | refine blk_drewN ?_ _ | refine blk_drew ?_ | refine blk_alloc ?_ _)); refine blk_far ?_ NB198_197.out _; (with_reducible repeat (first | refine blk_drewN ?_ _ | refine blk_drew ?_ | refine blk_alloc ?_ _)); refine blk_far ?_ NB198_197.out _; (with_reducible repeat (first | refine blk_drewN ?_ _ | refine blk_drew ?_ | refine blk_alloc ?_ _)); refine blk_far ?_ NB198_197.out _; (with_reducible repeat (first | refine blk_drewN ?_ _ | refine blk_drew ?_ | refine blk_alloc ?_ _)); refine blk_far ?_ NB198_197.out _; (with_reducible repeat (first | refine blk_drewN ?_ _ | refine blk_drew ?_ | refine blk_alloc ?_ _)); exact BK198.out⟩, ⟨blkFars⟩, ⟨blkFars⟩, ⟨belowNow⟩⟩
                  case rest =>
                    clear HC46
                    try clear c2
                    try clear p2
                    try clear q2
                    try clear hx2
                    try clear c3
                    try clear c4
                    try clear c6
                    try clear p6
                    try clear p21
                    try clear q21
                    try clear hx21
                    try clear p22
                    try clear q22
                    try clear hx22
                    try clear c26
                    try clear c39
                    try clear c43
                    try clear c44
                    try clear c60
                    try clear c60b0
                    try clear c60b1
                    try clear c61
                    try clear c61b0
                    try clear c62
                    try clear c62b0
                    try clear p64
                    try clear hx210_0
                    try clear hx210_1
                    try clear hx210_10
                    try clear hx210_11
                    try clear hx210_12
                    try clear hx210_13
                    try clear hx210_14
                    try clear hx210_15
                    try clear hx210_16
                    try clear hx210_17
                    try clear hx210_2
                    try clear hx210_3
                    try clear hx210_4
                    try clear hx210_5
                    try clear hx210_6
                    try clear hx210_7
                    try clear hx210_8
                    try clear hx210_9
                    try clear hx222_0
                    try clear hx222_1
                    try clear hx222_10
                    try clear hx222_11
                    try clear hx222_12
                    try clear hx222_13
                    try clear hx222_14
                    try clear hx222_15
                    try clear hx222_16
                    try clear hx222_17
                    try clear hx222_2
                    try clear hx222_3
                    try clear hx222_4
                    try clear hx222_5
                    try clear hx222_6
                    try clear hx222_7
                    try clear hx222_8
                    try clear hx222_9
                    try clear p2
                    try clear p21
                    try clear p210
                    try clear p222
                    try clear q2
                    try clear q21
                    try clear q210
                    try clear q222
                    obtain ⟨kq, x6_45, x11_45, x199000_45, x199001_45, x199002_45, x199003_45, x199004_45, x199005_45, u199005, rfl, rfl, HA, HJ45, HO_3, HO_198005, HO_199005, HO_210005, HO_221005, BK197, BK198, BK209, BK220, HB⟩ := hcut
                    cases kq with
                    | zero => exact absurd HA.out (by simp [laws_FnTwice.j2])
                    | succ kj45 =>
                      have H := HA.out
                      clear HA
                      simp only [laws_FnTwice.j2] at H
                      replace H := Option.bind_eq_some_iff.mp H
                      obtain ⟨⟨t232, t233, t234, t235, t236, t237, t240, t243⟩, A740, H⟩ := H
                      replace H : ((impl_Play.f kj45 x199000_45 x199001_45 x199002_45 x199003_45 x199004_45 x199005_45).bind fun bt244 => (if x11_45 = true then (if t243 = true then (if bt244.2.2.2.2.2.2.2 = true then ((laws_sameInts.f kj45 t240 bt244.2.2.2.2.2.2.1).bind fun t256 => (if t256 = true then (laws_FnTwice.j3 kj45 l0 t194 x6_45 x7_1 ((t240.length : Int) != 30) t232 t233 t234 t235 t236 t237 bt244.1 bt244.2.1 bt244.2.2.1 bt244.2.2.2.1 bt244.2.2.2.2.1 bt244.2.2.2.2.2.1) else (laws_FnTwice.j3 kj45 l0 t194 x6_45 x7_1 true t232 t233 t234 t235 t236 t237 bt244.1 bt244.2.1 bt244.2.2.1 bt244.2.2.2.1 bt244.2.2.2.2.1 bt244.2.2.2.2.2.1))) else (laws_FnTwice.j3 kj45 l0 t194 x6_45 x7_1 true t232 t233 t234 t235 t236 t237 bt244.1 bt244.2.1 bt244.2.2.1 bt244.2.2.2.1 bt244.2.2.2.2.1 bt244.2.2.2.2.2.1)) else (laws_FnTwice.j3 kj45 l0 t194 x6_45 x7_1 true t232 t233 t234 t235 t236 t237 bt244.1 bt244.2.1 bt244.2.2.1 bt244.2.2.2.1 bt244.2.2.2.2.1 bt244.2.2.2.2.2.1)) else (laws_FnTwice.j3 kj45 l0 t194 x6_45 x7_1 true t232 t233 t234 t235 t236 t237 bt244.1 bt244.2.1 bt244.2.2.1 bt244.2.2.2.1 bt244.2.2.2.2.1 bt244.2.2.2.2.2.1))) = some r := H
                      have A74 := Aside0.mk A740
                      clear A740
                      replace H := Option.bind_eq_some_iff.mp H
                      obtain ⟨⟨t244, t245, t246, t247, t248, t249, t252, t255⟩, A750, H⟩ := H
                      replace H : (if x11_45 = true then (if t243 = true then (if t255 = true then ((laws_sameInts.f kj45 t240 t252).bind fun t256 => (if t256 = true then (laws_FnTwice.j3 kj45 l0 t194 x6_45 x7_1 ((t240.length : Int) != 30) t232 t233 t234 t235 t236 t237 t244 t245 t246 t247 t248 t249) else (laws_FnTwice.j3 kj45 l0 t194 x6_45 x7_1 true t232 t233 t234 t235 t236 t237 t244 t245 t246 t247 t248 t249))) else (laws_FnTwice.j3 kj45 l0 t194 x6_45 x7_1 true t232 t233 t234 t235 t236 t237 t244 t245 t246 t247 t248 t249)) else (laws_FnTwice.j3 kj45 l0 t194 x6_45 x7_1 true t232 t233 t234 t235 t236 t237 t244 t245 t246 t247 t248 t249)) else (laws_FnTwice.j3 kj45 l0 t194 x6_45 x7_1 true t232 t233 t234 t235 t236 t237 t244 t245 t246 t247 t248 t249)) = some r := H
                      have A75 := Aside0.mk A750
                      clear A750
                      have HC76 := Aside0.mk H
                      clear H
                      have hnb77 := NB197_198.out
                      have hnc77 := NB198_197.out
                      have hnb78 := NB197_209.out
                      have hnc78 := NB209_197.out
                      have hnb79 := NB197_220.out
                      have hnc79 := NB220_197.out
                      have hcz80_0 : wc.cell? ⟨gb197, 0, none⟩ = some (.int .i64 t200) := (blk_cell BK197.out 0).trans rfl
                      have hcz80_1 : wc.cell? ⟨gb197, 1, none⟩ = some (.int .i64 t201) := (blk_cell BK197.out 1).trans rfl
                      have hcz80_2 : wc.cell? ⟨gb197, 2, none⟩ = some (.int .i64 t202) := (blk_cell BK197.out 2).trans rfl
                      have hcz80_3 : wc.cell? ⟨gb197, 3, none⟩ = some (.int .i64 t203) := (blk_cell BK197.out 3).trans rfl
                      have hcz80_4 : wc.cell? ⟨gb197, 4, none⟩ = some (.int .i64 t204) := (blk_cell BK197.out 4).trans rfl
                      have hcz80_5 : wc.cell? ⟨gb197, 5, none⟩ = some (.slice Ao28 t205.length co28) := (blk_cell BK197.out 5).trans rfl
                      have hfz80_0 := blk_frozen BK197.out 0
                      have hfz80_1 := blk_frozen BK197.out 1
                      have hfz80_2 := blk_frozen BK197.out 2
                      have hfz80_3 := blk_frozen BK197.out 3
                      have hfz80_4 := blk_frozen BK197.out 4
                      have hfz80_5 := blk_frozen BK197.out 5
                      go_upto_region 20 with (first | ((with_reducible refine gate_callee (f := 30) rfl ?_); refine goesL_ (some 76) rfl rfl Try.func30 (by kernel_rfl) rfl #[.agg #[.int .i64 t200, .int .i64 t201, .int .i64 t202, .int .i64 t203, .int .i64 t204, .slice Ao28 t205.length co28]] rfl (by (try simp only [List.map_toArray, List.map_cons, List.map_nil]); first | done | rfl | (simp only [List.length_drop, List.length_take]; rfl)) ?_; (with_reducible refine (impl_Play.calls kj45 t200 t201 t202 t203 t204 _ _ t205 t232 t233 t234 t235 t236 t237 t240 t243 _ ?side1 ?side2 A74.out).mono ?_); (case side1 => repeat (first | exact (Kd.Q_reads' HO_198005.out).2.2 | (with_reducible refine Kd.C_alloc ?_ _) | (with_reducible refine Kd.C_drewN ?_ _) | (with_reducible refine Kd.C_drew ?_))); (case side2 => exact (Kd.Q_reads' HO_198005.out).2.1); rintro e w81 ⟨v238, v241, rfl, ho0, ho1, hb⟩; refine ⟨_, rfl, ?_⟩; have n0_ := Aside0.mk (Kd.R_elder' (by (with_reducible repeat (first | apply Kd.R_alloc | apply Kd.R_drewN | apply Kd.R_drew)); exact HO_3.out) (Kd.Q_base ho0) hb); have n1_ := Aside0.mk (Kd.Q_elder' (by (with_reducible repeat (first | apply Kd.Q_alloc | apply Kd.Q_drewN | apply Kd.Q_drew)); exact HO_198005.out) (Kd.Q_base ho0) hb); have n2_ := Aside0.mk (Kd.Q_elder' (by (with_reducible repeat (first | apply Kd.Q_alloc | apply Kd.Q_drewN | apply Kd.Q_drew)); exact HO_199005.out) (Kd.Q_base ho0) hb); have n3_ := Aside0.mk (Kd.Q_elder' (by (with_reducible repeat (first | apply Kd.Q_alloc | apply Kd.Q_drewN | apply Kd.Q_drew)); exact HO_210005.out) (Kd.Q_base ho0) hb); have n4_ := Aside0.mk (Kd.Q_elder' (by (with_reducible repeat (first | apply Kd.Q_alloc | apply Kd.Q_drewN | apply Kd.Q_drew)); exact HO_221005.out) (Kd.Q_base ho0) hb); have n5_ := Aside0.mk (Kd.Q_lower (Kd.Q_new' (Kd.Q_new' (Kd.Q_new' (Kd.Q_new' (Kd.Q_new' ho0 (Kd.R_lt (by (with_reducible repeat (first | apply Kd.R_alloc | apply Kd.R_drewN | apply Kd.R_drew)); exact HO_3.out))) (Kd.Q_lt (by (with_reducible repeat (first | apply Kd.Q_alloc | apply Kd.Q_drewN | apply Kd.Q_drew)); exact HO_198005.out))) (Kd.Q_lt (by (with_reducible repeat (first | apply Kd.Q_alloc | apply Kd.Q_drewN | apply Kd.Q_drew)); exact HO_199005.out))) (Kd.Q_lt (by (with_reducible repeat (first | apply Kd.Q_alloc | apply Kd.Q_drewN | apply Kd.Q_drew)); exact HO_210005.out))) (Kd.Q_lt (by (with_reducible repeat (first | apply Kd.Q_alloc | apply Kd.Q_drewN | apply Kd.Q_drew)); exact HO_221005.out))) (below_size belowNow)); have n6_ := Aside0.mk (Kd.R_lower ho1 (below_size belowNow)); have n7_ := Aside0.mk (blkStep (g := gb197) hb); have n8_ := Aside0.mk (blkStep (g := gb198) hb); have n9_ := Aside0.mk (blkStep (g := gb209) hb); have n10_ := Aside0.mk (blkStep (g := gb220) hb); have n11_ := Aside0.mk (below_step belowNow hb); clear HO_3; clear HO_198005; clear HO_199005; clear HO_210005; clear HO_221005; clear BK197; clear BK198; clear BK209; clear BK220; clear HB; have HO_3 := n0_; have HO_198005 := n1_; have HO_199005 := n2_; have HO_210005 := n3_; have HO_221005 := n4_; have HO239 := n5_; have HO242 := n6_; have BK197 := n7_; have BK198 := n8_; have BK209 := n9_; have BK220 := n10_; have HB := n11_; clear n0_ n1_ n2_ n3_ n4_ n5_ n6_ n7_ n8_ n9_ n10_ n11_; (try clear hb); (try clear hb2); (try clear hk); (try clear hi); (try clear ho0); (try clear ho1); have hnb82 := NB209_198.out; have hnc82 := NB198_209.out; have hnb83 := NB209_220.out; have hnc83 := NB220_209.out; have hcz84_0 : w81.cell? ⟨gb209, 0, none⟩ = some (.int .i64 t200) := (blk_cell BK209.out 0).trans rfl; have hcz84_1 : w81.cell? ⟨gb209, 1, none⟩ = some (.int .i64 t201) := (blk_cell BK209.out 1).trans rfl; have hcz84_2 : w81.cell? ⟨gb209, 2, none⟩ = some (.int .i64 t202) := (blk_cell BK209.out 2).trans rfl; have hcz84_3 : w81.cell? ⟨gb209, 3, none⟩ = some (.int .i64 t203) := (blk_cell BK209.out 3).trans rfl; have hcz84_4 : w81.cell? ⟨gb209, 4, none⟩ = some (.int .i64 t204) := (blk_cell BK209.out 4).trans rfl; have hcz84_5 : w81.cell? ⟨gb209, 5, none⟩ = some (.slice Ao28 t205.length co28) := (blk_cell BK209.out 5).trans rfl; have hfz84_0 := blk_frozen BK209.out 0; have hfz84_1 := blk_frozen BK209.out 1; have hfz84_2 := blk_frozen BK209.out 2; have hfz84_3 := blk_frozen BK209.out 3; have hfz84_4 := blk_frozen BK209.out 4; have hfz84_5 := blk_frozen BK209.out 5; obtain ⟨Ao85, co85, eo85, _⟩ := Kd.Q_slice HO239.out; subst eo85; have hnb86 := NB198_220.out; have hnc86 := NB220_198.out; have hcz87_0 : w81.cell? ⟨gb198, 0, none⟩ = some (.int .i64 x199000_45) := (blk_cell BK198.out 0).trans rfl; have hcz87_1 : w81.cell? ⟨gb198, 1, none⟩ = some (.int .i64 x199001_45) := (blk_cell BK198.out 1).trans rfl; have hcz87_2 : w81.cell? ⟨gb198, 2, none⟩ = some (.int .i64 x199002_45) := (blk_cell BK198.out 2).trans rfl; have hcz87_3 : w81.cell? ⟨gb198, 3, none⟩ = some (.int .i64 x199003_45) := (blk_cell BK198.out 3).trans rfl; have hcz87_4 : w81.cell? ⟨gb198, 4, none⟩ = some (.int .i64 x199004_45) := (blk_cell BK198.out 4).trans rfl; have hcz87_5 : w81.cell? ⟨gb198, 5, none⟩ = some (u199005) := (blk_cell BK198.out 5).trans rfl; have hfz87_0 := blk_frozen BK198.out 0; have hfz87_1 := blk_frozen BK198.out 1; have hfz87_2 := blk_frozen BK198.out 2; have hfz87_3 := blk_frozen BK198.out 3; have hfz87_4 := blk_frozen BK198.out 4; have hfz87_5 := blk_frozen BK198.out 5; obtain ⟨Ao88, co88, eo88, _⟩ := Kd.Q_slice HO_199005.out; subst eo88) | ((with_reducible refine gate_callee (f := 30) rfl ?_); refine goesL_ (some 82) rfl rfl Try.func30 (by kernel_rfl) rfl #[.agg #[.int .i64 x199000_45, .int .i64 x199001_45, .int .i64 x199002_45, .int .i64 x199003_45, .int .i64 x199004_45, .slice Ao88 x199005_45.length co88]] rfl (by (try simp only [List.map_toArray, List.map_cons, List.map_nil]); first | done | rfl | (simp only [List.length_drop, List.length_take]; rfl)) ?_; (with_reducible refine (impl_Play.calls kj45 x199000_45 x199001_45 x199002_45 x199003_45 x199004_45 _ _ x199005_45 t244 t245 t246 t247 t248 t249 t252 t255 _ ?side1 ?side2 A75.out).mono ?_); (case side1 => refine (Kd.Q_reads' (e := 44) (base := w.heap.size) (ok := fun k_ => ((some k_ ≠ (.slice (some ad199) t194.length co17 : Value).ownBlock ∧ (some k_ ≠ (.slice Ao28 t205.length co28 : Value).ownBlock ∧ some k_ ≠ (.slice Ao28 t205.length co28 : Value).ownBlock)) ∧ some k_ ≠ (.slice Ao85 t237.length co85 : Value).ownBlock)) (n := x199005_45.length) (c := co88) ?_).2.2; exact (by (with_reducible repeat (first | apply Kd.Q_alloc | apply Kd.Q_drewN | apply Kd.Q_drew)); exact (Kd.Q_mono (Far.qfar6_ (fun _ hk => hk.2) (Kd.Q_types HO_199005.out BK209.out (by decide))) (fun _ h_ => h_.1)))); (case side2 => exact (Kd.Q_reads' HO_199005.out).2.1); rintro e w89 ⟨v250, v253, rfl, ho0, ho1, hb⟩; refine ⟨_, rfl, ?_⟩; have n0_ := Aside0.mk (Kd.R_elder' (by (with_reducible repeat (first | apply Kd.R_alloc | apply Kd.R_drewN | apply Kd.R_drew)); exact (Kd.R_mono (Far.rfar6_ (fun _ hk => hk.2) (Kd.R_types HO_3.out BK209.out (by decide))) (fun _ h_ => h_.1))) (Kd.Q_base ho0) hb); have n1_ := Aside0.mk (Kd.Q_elder' (by (with_reducible repeat (first | apply Kd.Q_alloc | apply Kd.Q_drewN | apply Kd.Q_drew)); exact (Kd.Q_mono (Far.qfar6_ (fun _ hk => hk.2) (Kd.Q_types HO_198005.out BK209.out (by decide))) (fun _ h_ => h_.1))) (Kd.Q_base ho0) hb); have n2_ := Aside0.mk (Kd.Q_elder' (by (with_reducible repeat (first | apply Kd.Q_alloc | apply Kd.Q_drewN | apply Kd.Q_drew)); exact (Kd.Q_mono (Far.qfar6_ (fun _ hk => hk.2) (Kd.Q_types HO_199005.out BK209.out (by decide))) (fun _ h_ => h_.1))) (Kd.Q_base ho0) hb); have n3_ := Aside0.mk (Kd.Q_elder' (by (with_reducible repeat (first | apply Kd.Q_alloc | apply Kd.Q_drewN | apply Kd.Q_drew)); exact (Kd.Q_mono (Far.qfar6_ (fun _ hk => hk.2) (Kd.Q_types HO_210005.out BK209.out (by decide))) (fun _ h_ => h_.1))) (Kd.Q_base ho0) hb); have n4_ := Aside0.mk (Kd.Q_elder' (by (with_reducible repeat (first | apply Kd.Q_alloc | apply Kd.Q_drewN | apply Kd.Q_drew)); exact (Kd.Q_mono (Far.qfar6_ (fun _ hk => hk.2) (Kd.Q_types HO_221005.out BK209.out (by decide))) (fun _ h_ => h_.1))) (Kd.Q_base ho0) hb); have n5_ := Aside0.mk (Kd.Q_elder' (by (with_reducible repeat (first | apply Kd.Q_alloc | apply Kd.Q_drewN | apply Kd.Q_drew)); exact (Kd.Q_mono (Far.qfar6_ (fun _ hk => hk.2) (Kd.Q_types HO239.out BK209.out (by decide))) (fun _ h_ => h_.1))) (Kd.Q_base ho0) hb); have n6_ := Aside0.mk (Kd.R_elder' (by (with_reducible repeat (first | apply Kd.R_alloc | apply Kd.R_drewN | apply Kd.R_drew)); exact (Kd.R_mono (Far.rfar6_ (fun _ hk => hk.2) (Kd.R_types HO242.out BK209.out (by decide))) (fun _ h_ => h_.1))) (Kd.R_base ho1) hb); have n7_ := Aside0.mk (Kd.Q_lower (Kd.Q_new' (Kd.Q_new' (Kd.Q_new' (Kd.Q_new' (Kd.Q_new' (Kd.Q_new' ho0 (Kd.R_lt (by (with_reducible repeat (first | apply Kd.R_alloc | apply Kd.R_drewN | apply Kd.R_drew)); exact (Kd.R_mono (Far.rfar6_ (fun _ hk => hk.2) (Kd.R_types HO_3.out BK209.out (by decide))) (fun _ h_ => h_.1))))) (Kd.Q_lt (by (with_reducible repeat (first | apply Kd.Q_alloc | apply Kd.Q_drewN | apply Kd.Q_drew)); exact (Kd.Q_mono (Far.qfar6_ (fun _ hk => hk.2) (Kd.Q_types HO_198005.out BK209.out (by decide))) (fun _ h_ => h_.1))))) (Kd.Q_lt (by (with_reducible repeat (first | apply Kd.Q_alloc | apply Kd.Q_drewN | apply Kd.Q_drew)); exact (Kd.Q_mono (Far.qfar6_ (fun _ hk => hk.2) (Kd.Q_types HO_199005.out BK209.out (by decide))) (fun _ h_ => h_.1))))) (Kd.Q_lt (by (with_reducible repeat (first | apply Kd.Q_alloc | apply Kd.Q_drewN | apply Kd.Q_drew)); exact (Kd.Q_mono (Far.qfar6_ (fun _ hk => hk.2) (Kd.Q_types HO_210005.out BK209.out (by decide))) (fun _ h_ => h_.1))))) (Kd.Q_lt (by (with_reducible repeat (first | apply Kd.Q_alloc | apply Kd.Q_drewN | apply Kd.Q_drew)); exact (Kd.Q_mono (Far.qfar6_ (fun _ hk => hk.2) (Kd.Q_types HO_221005.out BK209.out (by decide))) (fun _ h_ => h_.1))))) (Kd.Q_lt (by (with_reducible repeat (first | apply Kd.Q_alloc | apply Kd.Q_drewN | apply Kd.Q_drew)); exact (Kd.Q_mono (Far.qfar6_ (fun _ hk => hk.2) (Kd.Q_types HO239.out BK209.out (by decide))) (fun _ h_ => h_.1))))) (below_size belowNow)); have n8_ := Aside0.mk (Kd.R_lower (Kd.R_new' ho1 (Kd.R_lt (by (with_reducible repeat (first | apply Kd.R_alloc | apply Kd.R_drewN | apply Kd.R_drew)); exact (Kd.R_mono (Far.rfar6_ (fun _ hk => hk.2) (Kd.R_types HO242.out BK209.out (by decide))) (fun _ h_ => h_.1))))) (below_size belowNow)); have n9_ := Aside0.mk (blk_below (g := gb197) (o := .cells #[.int .i64 t200, .int .i64 t201, .int .i64 t202, .int .i64 t203, .int .i64 t204, .slice Ao28 t205.length co28] 35 (0, 0)) (blkFars) hb); have n10_ := Aside0.mk (blk_below (g := gb198) (o := .cells #[.int .i64 x199000_45, .int .i64 x199001_45, .int .i64 x199002_45, .int .i64 x199003_45, .int .i64 x199004_45, .slice Ao88 x199005_45.length co88] 35 (0, 0)) (blkFars) hb); have n11_ := Aside0.mk (blk_below (g := gb209) (o := .cells #[.int .i64 t232, .int .i64 t233, .int .i64 t234, .int .i64 t235, .int .i64 t236, .slice Ao85 t237.length co85] 35 (0, 0)) (by (with_reducible repeat (first | refine blk_drewN ?_ _ | refine blk_drew ?_ | refine blk_alloc ?_ _)); refine Far.put6_ #[.int .i64 t200, .int .i64 t201, .int .i64 t202, .int .i64 t203, .int .i64 t204, .slice Ao28 t205.length co28] rfl ?_; (with_reducible repeat (first | refine blk_drewN ?_ _ | refine blk_drew ?_ | refine blk_alloc ?_ _)); exact BK209.out) hb); have n12_ := Aside0.mk (blk_below (g := gb220) (o := .cells #[.int .i64 t211, .int .i64 t212, .int .i64 t213, .int .i64 t214, .int .i64 t215, .slice Ao41 t216.length co41] 35 (0, 0)) (blkFars) hb); have n13_ := Aside0.mk (below_step belowNow hb); clear HO_3; clear HO_198005; clear HO_199005; clear HO_210005; clear HO_221005; clear HO239; clear HO242; clear BK197; clear BK198; clear BK209; clear BK220; clear HB; have HO_3 := n0_; have HO_198005 := n1_; have HO_199005 := n2_; have HO_210005 := n3_; have HO_221005 := n4_; have HO239 := n5_; have HO242 := n6_; have HO251 := n7_; have HO254 := n8_; have BK197 := n9_; have BK198 := n10_; have BK209 := n11_; have BK220 := n12_; have HB := n13_; clear n0_ n1_ n2_ n3_ n4_ n5_ n6_ n7_ n8_ n9_ n10_ n11_ n12_ n13_; (try clear hb); (try clear hb2); (try clear hk); (try clear hi); (try clear ho0); (try clear ho1); have hcz90_0 : w89.cell? ⟨gb220, 0, none⟩ = some (.int .i64 t211) := (blk_cell BK220.out 0).trans rfl; have hcz90_1 : w89.cell? ⟨gb220, 1, none⟩ = some (.int .i64 t212) := (blk_cell BK220.out 1).trans rfl; have hcz90_2 : w89.cell? ⟨gb220, 2, none⟩ = some (.int .i64 t213) := (blk_cell BK220.out 2).trans rfl; have hcz90_3 : w89.cell? ⟨gb220, 3, none⟩ = some (.int .i64 t214) := (blk_cell BK220.out 3).trans rfl; have hcz90_4 : w89.cell? ⟨gb220, 4, none⟩ = some (.int .i64 t215) := (blk_cell BK220.out 4).trans rfl; have hcz90_5 : w89.cell? ⟨gb220, 5, none⟩ = some (.slice Ao41 t216.length co41) := (blk_cell BK220.out 5).trans rfl; have hfz90_0 := blk_frozen BK220.out 0; have hfz90_1 := blk_frozen BK220.out 1; have hfz90_2 := blk_frozen BK220.out 2; have hfz90_3 := blk_frozen BK220.out 3; have hfz90_4 := blk_frozen BK220.out 4; have hfz90_5 := blk_frozen BK220.out 5; obtain ⟨Ao91, co91, eo91, _⟩ := Kd.Q_slice HO251.out; subst eo91))
                      (try simp only [Act.put, List.setIfInBounds_toArray, List.set_cons_zero, List.set_cons_succ])
                      go_cut [106] (fun v106 wc => ∃ (kq : Nat) (x106_75 : Bool), v106 = .bool x106_75 ∧ Aside0 (laws_FnTwice.j3 kq l0 t194 x6_45 x7_1 x106_75 t232 t233 t234 t235 t236 t237 t244 t245 t246 t247 t248 t249 = some r) ∧ Aside0 (kq ≤ kj45) ∧ Aside0 (Kd.R k44 44 wc w.heap.size (fun k_ => some k_ ≠ ((.slice Ao28 t205.length co28) : Value).ownBlock ∧ some k_ ≠ ((.slice Ao88 x199005_45.length co88) : Value).ownBlock ∧ some k_ ≠ ((.slice Ao85 t237.length co85) : Value).ownBlock ∧ some k_ ≠ ((.slice Ao91 t249.length co91) : Value).ownBlock) (.slice (some ad199) t194.length co17) t194) ∧ Aside0 (Kd.Q k44 44 wc w.heap.size (fun k_ => some k_ ≠ ((.slice (some ad199) t194.length co17) : Value).ownBlock ∧ some k_ ≠ ((.slice Ao88 x199005_45.length co88) : Value).ownBlock ∧ some k_ ≠ ((.slice Ao85 t237.length co85) : Value).ownBlock ∧ some k_ ≠ ((.slice Ao91 t249.length co91) : Value).ownBlock) (.slice Ao28 t205.length co28) t205) ∧ Aside0 (Kd.Q k44 44 wc w.heap.size (fun k_ => some k_ ≠ ((.slice (some ad199) t194.length co17) : Value).ownBlock ∧ some k_ ≠ ((.slice Ao28 t205.length co28) : Value).ownBlock ∧ some k_ ≠ ((.slice Ao85 t237.length co85) : Value).ownBlock ∧ some k_ ≠ ((.slice Ao91 t249.length co91) : Value).ownBlock) (.slice Ao88 x199005_45.length co88) x199005_45) ∧ Aside0 (Kd.Q k44 44 wc w.heap.size (fun k_ => some k_ ≠ ((.slice (some ad199) t194.length co17) : Value).ownBlock ∧ some k_ ≠ ((.slice Ao28 t205.length co28) : Value).ownBlock ∧ some k_ ≠ ((.slice Ao88 x199005_45.length co88) : Value).ownBlock ∧ some k_ ≠ ((.slice Ao91 t249.length co91) : Value).ownBlock) (.slice Ao85 t237.length co85) t237) ∧ Aside0 (Kd.Q k44 44 wc w.heap.size (fun k_ => some k_ ≠ ((.slice (some ad199) t194.length co17) : Value).ownBlock ∧ some k_ ≠ ((.slice Ao28 t205.length co28) : Value).ownBlock ∧ some k_ ≠ ((.slice Ao88 x199005_45.length co88) : Value).ownBlock ∧ some k_ ≠ ((.slice Ao85 t237.length co85) : Value).ownBlock) (.slice Ao91 t249.length co91) t249) ∧ Aside0 (wc.heap[gb197]? = some (.cells #[.int .i64 t200, .int .i64 t201, .int .i64 t202, .int .i64 t203, .int .i64 t204, (.slice Ao28 t205.length co28)] 35 (0, 0))) ∧ Aside0 (wc.heap[gb198]? = some (.cells #[.int .i64 x199000_45, .int .i64 x199001_45, .int .i64 x199002_45, .int .i64 x199003_45, .int .i64 x199004_45, (.slice Ao88 x199005_45.length co88)] 35 (0, 0))) ∧ Aside0 (wc.heap[gb209]? = some (.cells #[.int .i64 t232, .int .i64 t233, .int .i64 t234, .int .i64 t235, .int .i64 t236, (.slice Ao85 t237.length co85)] 35 (0, 0))) ∧ Aside0 (wc.heap[gb220]? = some (.cells #[.int .i64 t244, .int .i64 t245, .int .i64 t246, .int .i64 t247, .int .i64 t248, (.slice Ao91 t249.length co91)] 35 (0, 0))) ∧ Aside0 (Below w.heap.size w wc))
                      case first =>
                        have H := HC76.out
                        clear HC76
                        by_cases c92 : x11_45 = true
                        · subst c92
                          have H1 : (if t243 = true then (if t255 = true then ((laws_sameInts.f kj45 t240 t252).bind fun t256 => (if t256 = true then (laws_FnTwice.j3 kj45 l0 t194 x6_45 x7_1 ((t240.length : Int) != 30) t232 t233 t234 t235 t236 t237 t244 t245 t246 t247 t248 t249) else (laws_FnTwice.j3 kj45 l0 t194 x6_45 x7_1 true t232 t233 t234 t235 t236 t237 t244 t245 t246 t247 t248 t249))) else (laws_FnTwice.j3 kj45 l0 t194 x6_45 x7_1 true t232 t233 t234 t235 t236 t237 t244 t245 t246 t247 t248 t249)) else (laws_FnTwice.j3 kj45 l0 t194 x6_45 x7_1 true t232 t233 t234 t235 t236 t237 t244 t245 t246 t247 t248 t249)) = some r := by rw [if_pos rfl] at H; exact H
                          clear H
                          have H := H1
                          clear H1
                          by_cases c93 : t243 = true
                          · subst c93
                            have H1 : (if t255 = true then ((laws_sameInts.f kj45 t240 t252).bind fun t256 => (if t256 = true then (laws_FnTwice.j3 kj45 l0 t194 x6_45 x7_1 ((t240.length : Int) != 30) t232 t233 t234 t235 t236 t237 t244 t245 t246 t247 t248 t249) else (laws_FnTwice.j3 kj45 l0 t194 x6_45 x7_1 true t232 t233 t234 t235 t236 t237 t244 t245 t246 t247 t248 t249))) else (laws_FnTwice.j3 kj45 l0 t194 x6_45 x7_1 true t232 t233 t234 t235 t236 t237 t244 t245 t246 t247 t248 t249)) = some r := by rw [if_pos rfl] at H; exact H
                            clear H
                            have H := H1
                            clear H1
                            by_cases c94 : t255 = true
                            · subst c94
                              have H1 : ((laws_sameInts.f kj45 t240 t252).bind fun t256 => (if t256 = true then (laws_FnTwice.j3 kj45 l0 t194 x6_45 x7_1 ((t240.length : Int) != 30) t232 t233 t234 t235 t236 t237 t244 t245 t246 t247 t248 t249) else (laws_FnTwice.j3 kj45 l0 t194 x6_45 x7_1 true t232 t233 t234 t235 t236 t237 t244 t245 t246 t247 t248 t249))) = some r := by rw [if_pos rfl] at H; exact H
                              clear H
                              have H := H1
                              clear H1
                              replace H := Option.bind_eq_some_iff.mp H
                              obtain ⟨t256, A950, H⟩ := H
                              replace H : (if t256 = true then (laws_FnTwice.j3 kj45 l0 t194 x6_45 x7_1 ((t240.length : Int) != 30) t232 t233 t234 t235 t236 t237 t244 t245 t246 t247 t248 t249) else (laws_FnTwice.j3 kj45 l0 t194 x6_45 x7_1 true t232 t233 t234 t235 t236 t237 t244 t245 t246 t247 t248 t249)) = some r := H
                              have A95 := Aside0.mk A950
                              clear A950
                              by_cases c96 : t256 = true
                              · subst c96
                                have H1 : (laws_FnTwice.j3 kj45 l0 t194 x6_45 x7_1 ((t240.length : Int) != 30) t232 t233 t234 t235 t236 t237 t244 t245 t246 t247 t248 t249) = some r := by rw [if_pos rfl] at H; exact H
                                clear H
                                have H := H1
                                clear H1
                                as_aux_lemma =>
                                  have H' := Aside0.mk H
                                  clear H
                                  obtain ⟨Ao97, co97, eo97⟩ := Kd.R_slice HO242.out
                                  subst eo97
                                  obtain ⟨Ao98, co98, eo98⟩ := Kd.R_slice HO254.out
                                  subst eo98
                                  go_wp2_with (first | (go_at_call 40; (with_reducible refine (laws_sameInts.calls kj45 _ _ t240 _ _ t252 true _ ?side1 ?side2 ?side3 ?side4 A95.out).mono ?_); (case side1 => refine (Kd.R_reads' (e := 3) (base := w.heap.size) (ok := fun k_ => (True ∧ some k_ ≠ (.slice Ao98 t252.length co98 : Value).ownBlock)) (n := t240.length) (c := co97) ?_).2.2; exact (by (with_reducible repeat (first | apply Kd.R_alloc | apply Kd.R_drewN | apply Kd.R_drew)); exact (Kd.R_mono (Far.rfar6_ (fun _ hk => hk.2) (Kd.R_types HO242.out BK220.out (by decide))) (fun _ h_ => h_.1)))); (case side2 => exact (Kd.R_reads' HO242.out).2.1); (case side3 => refine (Kd.R_reads' (e := 3) (base := w.heap.size) (ok := fun k_ => (True ∧ some k_ ≠ (.slice Ao97 t240.length co97 : Value).ownBlock)) (n := t252.length) (c := co98) ?_).2.2; exact (by (with_reducible repeat (first | apply Kd.R_alloc | apply Kd.R_drewN | apply Kd.R_drew)); exact (Kd.R_mono (Far.rfar6_ (fun _ hk => hk.2) (Kd.R_types HO254.out BK220.out (by decide))) (fun _ h_ => h_.1)))); (case side4 => exact (Kd.R_reads' HO254.out).2.1); rintro e w' ⟨rfl, ⟨nd, rfl⟩⟩))
                                  go_meet
                                  case rel => exact ⟨_, (((t240.length : Int) != 30)), (by first | rfl | (simp; done) | (simp [*]; done)), H', ⟨by have := HK1.out; have := HJ15.out; have := HJ45.out; first | omega | exact Nat.le_refl _⟩, ⟨by (with_reducible repeat (first | apply Kd.R_alloc | apply Kd.R_drewN | apply Kd.R_drew)); exact Kd.R_mono (Far.rfar6_ (fun _ hk => hk.2) (Kd.R_types HO_3.out BK220.out (by decide))) (fun _ hk => by first | exact ⟨hk.1.1.1.1, ⟨hk.1.1.1.2.1, ⟨hk.1.1.2, hk.1.2⟩⟩⟩ | simp [hk])⟩, ⟨by (with_reducible repeat (first | apply Kd.Q_alloc | apply Kd.Q_drewN | apply Kd.Q_drew)); exact Kd.Q_mono (Far.qfar6_ (fun _ hk => hk.2) (Kd.Q_types HO_198005.out BK220.out (by decide))) (fun _ hk => by first | exact ⟨hk.1.1.1.1, ⟨hk.1.1.1.2.1, ⟨hk.1.1.2, hk.1.2⟩⟩⟩ | simp [hk])⟩, ⟨by (with_reducible repeat (first | apply Kd.Q_alloc | apply Kd.Q_drewN | apply Kd.Q_drew)); exact Kd.Q_mono (Far.qfar6_ (fun _ hk => hk.2) (Kd.Q_types HO_199005.out BK220.out (by decide))) (fun _ hk => by first | exact ⟨hk.1.1.1.1, ⟨hk.1.1.1.2.1, ⟨hk.1.1.2, hk.1.2⟩⟩⟩ | simp [hk])⟩, ⟨by (with_reducible repeat (first | apply Kd.Q_alloc | apply Kd.Q_drewN | apply Kd.Q_drew)); exact Kd.Q_mono (Far.qfar6_ (fun _ hk => hk.2) (Kd.Q_types HO239.out BK220.out (by decide))) (fun _ hk => by first | exact ⟨hk.1.1.1.1.1.1.2, ⟨hk.1.1.1.1.1.2, ⟨hk.1.1.1.1.2, hk.1.2⟩⟩⟩ | simp [hk])⟩, ⟨by (with_reducible repeat (first | apply Kd.Q_alloc | apply Kd.Q_drewN | apply Kd.Q_drew)); exact Kd.Q_mono (Far.qfar6_ (fun _ hk => hk.2) (Kd.Q_types HO251.out BK220.out (by decide))) (fun _ hk => by first | exact ⟨hk.1.1.1.1.1.1.2, ⟨hk.1.1.1.1.1.2, ⟨hk.1.1.1.1.2, hk.1.2⟩⟩⟩ | simp [hk])⟩, ⟨blkFars⟩, ⟨blkFars⟩, ⟨blkFars⟩, ⟨by (with_reducible repeat (first | refine blk_drewN ?_ _ | refine blk_drew ?_ | refine blk_alloc ?_ _)); refine Far.put6_ #[.int .i64 t211, .int .i64 t212, .int .i64 t213, .int .i64 t214, .int .i64 t215, .slice Ao41 t216.length co41] rfl ?_; (with_reducible repeat (first | refine blk_drewN ?_ _ | refine blk_drew ?_ | refine blk_alloc ?_ _)); exact BK220.out⟩, ⟨belowNow⟩⟩
                              · replace c96 := Bool.eq_false_iff.mpr c96
                                subst c96
                                have H1 : (laws_FnTwice.j3 kj45 l0 t194 x6_45 x7_1 true t232 t233 t234 t235 t236 t237 t244 t245 t246 t247 t248 t249) = some r := by rw [if_neg (show ¬ (false = true) by decide)] at H; exact H
                                clear H
                                have H := H1
                                clear H1
                                as_aux_lemma =>
                                  have H' := Aside0.mk H
                                  clear H
                                  obtain ⟨Ao99, co99, eo99⟩ := Kd.R_slice HO242.out
                                  subst eo99
                                  obtain ⟨Ao100, co100, eo100⟩ := Kd.R_slice HO254.out
                                  subst eo100
                                  go_wp2_with (first | (go_at_call 40; (with_reducible refine (laws_sameInts.calls kj45 _ _ t240 _ _ t252 false _ ?side1 ?side2 ?side3 ?side4 A95.out).mono ?_); (case side1 => refine (Kd.R_reads' (e := 3) (base := w.heap.size) (ok := fun k_ => (True ∧ some k_ ≠ (.slice Ao100 t252.length co100 : Value).ownBlock)) (n := t240.length) (c := co99) ?_).2.2; exact (by (with_reducible repeat (first | apply Kd.R_alloc | apply Kd.R_drewN | apply Kd.R_drew)); exact (Kd.R_mono (Far.rfar6_ (fun _ hk => hk.2) (Kd.R_types HO242.out BK220.out (by decide))) (fun _ h_ => h_.1)))); (case side2 => exact (Kd.R_reads' HO242.out).2.1); (case side3 => refine (Kd.R_reads' (e := 3) (base := w.heap.size) (ok := fun k_ => (True ∧ some k_ ≠ (.slice Ao99 t240.length co99 : Value).ownBlock)) (n := t252.length) (c := co100) ?_).2.2; exact (by (with_reducible repeat (first | apply Kd.R_alloc | apply Kd.R_drewN | apply Kd.R_drew)); exact (Kd.R_mono (Far.rfar6_ (fun _ hk => hk.2) (Kd.R_types HO254.out BK220.out (by decide))) (fun _ h_ => h_.1)))); (case side4 => exact (Kd.R_reads' HO254.out).2.1); rintro e w' ⟨rfl, ⟨nd, rfl⟩⟩))
                                  go_meet
                                  case rel => exact ⟨_, (true), (by first | rfl | (simp; done) | (simp [*]; done)), H', ⟨by have := HK1.out; have := HJ15.out; have := HJ45.out; first | omega | exact Nat.le_refl _⟩, ⟨by (with_reducible repeat (first | apply Kd.R_alloc | apply Kd.R_drewN | apply Kd.R_drew)); exact Kd.R_mono (Far.rfar6_ (fun _ hk => hk.2) (Kd.R_types HO_3.out BK220.out (by decide))) (fun _ hk => by first | exact ⟨hk.1.1.1.1, ⟨hk.1.1.1.2.1, ⟨hk.1.1.2, hk.1.2⟩⟩⟩ | simp [hk])⟩, ⟨by (with_reducible repeat (first | apply Kd.Q_alloc | apply Kd.Q_drewN | apply Kd.Q_drew)); exact Kd.Q_mono (Far.qfar6_ (fun _ hk => hk.2) (Kd.Q_types HO_198005.out BK220.out (by decide))) (fun _ hk => by first | exact ⟨hk.1.1.1.1, ⟨hk.1.1.1.2.1, ⟨hk.1.1.2, hk.1.2⟩⟩⟩ | simp [hk])⟩, ⟨by (with_reducible repeat (first | apply Kd.Q_alloc | apply Kd.Q_drewN | apply Kd.Q_drew)); exact Kd.Q_mono (Far.qfar6_ (fun _ hk => hk.2) (Kd.Q_types HO_199005.out BK220.out (by decide))) (fun _ hk => by first | exact ⟨hk.1.1.1.1, ⟨hk.1.1.1.2.1, ⟨hk.1.1.2, hk.1.2⟩⟩⟩ | simp [hk])⟩, ⟨by (with_reducible repeat (first | apply Kd.Q_alloc | apply Kd.Q_drewN | apply Kd.Q_drew)); exact Kd.Q_mono (Far.qfar6_ (fun _ hk => hk.2) (Kd.Q_types HO239.out BK220.out (by decide))) (fun _ hk => by first | exact ⟨hk.1.1.1.1.1.1.2, ⟨hk.1.1.1.1.1.2, ⟨hk.1.1.1.1.2, hk.1.2⟩⟩⟩ | simp [hk])⟩, ⟨by (with_reducible repeat (first | apply Kd.Q_alloc | apply Kd.Q_drewN | apply Kd.Q_drew)); exact Kd.Q_mono (Far.qfar6_ (fun _ hk => hk.2) (Kd.Q_types HO251.out BK220.out (by decide))) (fun _ hk => by first | exact ⟨hk.1.1.1.1.1.1.2, ⟨hk.1.1.1.1.1.2, ⟨hk.1.1.1.1.2, hk.1.2⟩⟩⟩ | simp [hk])⟩, ⟨blkFars⟩, ⟨blkFars⟩, ⟨blkFars⟩, ⟨by (with_reducible repeat (first | refine blk_drewN ?_ _ | refine blk_drew ?_ | refine blk_alloc ?_ _)); refine Far.put6_ #[.int .i64 t211, .int .i64 t212, .int .i64 t213, .int .i64 t214, .int .i64 t215, .slice Ao41 t216.length co41] rfl ?_; (with_reducible repeat (first | refine blk_drewN ?_ _ | refine blk_drew ?_ | refine blk_alloc ?_ _)); exact BK220.out⟩, ⟨belowNow⟩⟩
                            · replace c94 := Bool.eq_false_iff.mpr c94
                              subst c94
                              have H1 : (laws_FnTwice.j3 kj45 l0 t194 x6_45 x7_1 true t232 t233 t234 t235 t236 t237 t244 t245 t246 t247 t248 t249) = some r := by rw [if_neg (show ¬ (false = true) by decide)] at H; exact H
                              clear H
                              have H := H1
                              clear H1
                              as_aux_lemma =>
                                have H' := Aside0.mk H
                                clear H
                                go_wp2
                                go_meet
                                case rel => exact ⟨_, (true), (by first | rfl | (simp; done) | (simp [*]; done)), H', ⟨by have := HK1.out; have := HJ15.out; have := HJ45.out; first | omega | exact Nat.le_refl _⟩, ⟨by (with_reducible repeat (first | apply Kd.R_alloc | apply Kd.R_drewN | apply Kd.R_drew)); exact Kd.R_mono (Far.rfar6_ (fun _ hk => hk.2) (Kd.R_types HO_3.out BK220.out (by decide))) (fun _ hk => by first | exact ⟨hk.1.1.1.1, ⟨hk.1.1.1.2.1, ⟨hk.1.1.2, hk.1.2⟩⟩⟩ | simp [hk])⟩, ⟨by (with_reducible repeat (first | apply Kd.Q_alloc | apply Kd.Q_drewN | apply Kd.Q_drew)); exact Kd.Q_mono (Far.qfar6_ (fun _ hk => hk.2) (Kd.Q_types HO_198005.out BK220.out (by decide))) (fun _ hk => by first | exact ⟨hk.1.1.1.1, ⟨hk.1.1.1.2.1, ⟨hk.1.1.2, hk.1.2⟩⟩⟩ | simp [hk])⟩, ⟨by (with_reducible repeat (first | apply Kd.Q_alloc | apply Kd.Q_drewN | apply Kd.Q_drew)); exact Kd.Q_mono (Far.qfar6_ (fun _ hk => hk.2) (Kd.Q_types HO_199005.out BK220.out (by decide))) (fun _ hk => by first | exact ⟨hk.1.1.1.1, ⟨hk.1.1.1.2.1, ⟨hk.1.1.2, hk.1.2⟩⟩⟩ | simp [hk])⟩, ⟨by (with_reducible repeat (first | apply Kd.Q_alloc | apply Kd.Q_drewN | apply Kd.Q_drew)); exact Kd.Q_mono (Far.qfar6_ (fun _ hk => hk.2) (Kd.Q_types HO239.out BK220.out (by decide))) (fun _ hk => by first | exact ⟨hk.1.1.1.1.1.1.2, ⟨hk.1.1.1.1.1.2, ⟨hk.1.1.1.1.2, hk.1.2⟩⟩⟩ | simp [hk])⟩, ⟨by (with_reducible repeat (first | apply Kd.Q_alloc | apply Kd.Q_drewN | apply Kd.Q_drew)); exact Kd.Q_mono (Far.qfar6_ (fun _ hk => hk.2) (Kd.Q_types HO251.out BK220.out (by decide))) (fun _ hk => by first | exact ⟨hk.1.1.1.1.1.1.2, ⟨hk.1.1.1.1.1.2, ⟨hk.1.1.1.1.2, hk.1.2⟩⟩⟩ | simp [hk])⟩, ⟨blkFars⟩, ⟨blkFars⟩, ⟨blkFars⟩, ⟨by (with_reducible repeat (first | refine blk_drewN ?_ _ | refine blk_drew ?_ | refine blk_alloc ?_ _)); refine Far.put6_ #[.int .i64 t211, .int .i64 t212, .int .i64 t213, .int .i64 t214, .int .i64 t215, .slice Ao41 t216.length co41] rfl ?_; (with_reducible repeat (first | refine blk_drewN ?_ _ | refine blk_drew ?_ | refine blk_alloc ?_ _)); exact BK220.out⟩, ⟨belowNow⟩⟩
                          · replace c93 := Bool.eq_false_iff.mpr c93
                            subst c93
                            have H1 : (laws_FnTwice.j3 kj45 l0 t194 x6_45 x7_1 true t232 t233 t234 t235 t236 t237 t244 t245 t246 t247 t248 t249) = some r := by rw [if_neg (show ¬ (false = true) by decide)] at H; exact H
                            clear H
                            have H := H1
                            clear H1
                            as_aux_lemma =>
                              have H' := Aside0.mk H
                              clear H
                              go_wp2
                              go_meet
                              case rel => exact ⟨_, (true), (by first | rfl | (simp; done) | (simp [*]; done)), H', ⟨by have := HK1.out; have := HJ15.out; have := HJ45.out; first | omega | exact Nat.le_refl _⟩, ⟨by (with_reducible repeat (first | apply Kd.R_alloc | apply Kd.R_drewN | apply Kd.R_drew)); exact Kd.R_mono (Far.rfar6_ (fun _ hk => hk.2) (Kd.R_types HO_3.out BK220.out (by decide))) (fun _ hk => by first | exact ⟨hk.1.1.1.1, ⟨hk.1.1.1.2.1, ⟨hk.1.1.2, hk.1.2⟩⟩⟩ | simp [hk])⟩, ⟨by (with_reducible repeat (first | apply Kd.Q_alloc | apply Kd.Q_drewN | apply Kd.Q_drew)); exact Kd.Q_mono (Far.qfar6_ (fun _ hk => hk.2) (Kd.Q_types HO_198005.out BK220.out (by decide))) (fun _ hk => by first | exact ⟨hk.1.1.1.1, ⟨hk.1.1.1.2.1, ⟨hk.1.1.2, hk.1.2⟩⟩⟩ | simp [hk])⟩, ⟨by (with_reducible repeat (first | apply Kd.Q_alloc | apply Kd.Q_drewN | apply Kd.Q_drew)); exact Kd.Q_mono (Far.qfar6_ (fun _ hk => hk.2) (Kd.Q_types HO_199005.out BK220.out (by decide))) (fun _ hk => by first | exact ⟨hk.1.1.1.1, ⟨hk.1.1.1.2.1, ⟨hk.1.1.2, hk.1.2⟩⟩⟩ | simp [hk])⟩, ⟨by (with_reducible repeat (first | apply Kd.Q_alloc | apply Kd.Q_drewN | apply Kd.Q_drew)); exact Kd.Q_mono (Far.qfar6_ (fun _ hk => hk.2) (Kd.Q_types HO239.out BK220.out (by decide))) (fun _ hk => by first | exact ⟨hk.1.1.1.1.1.1.2, ⟨hk.1.1.1.1.1.2, ⟨hk.1.1.1.1.2, hk.1.2⟩⟩⟩ | simp [hk])⟩, ⟨by (with_reducible repeat (first | apply Kd.Q_alloc | apply Kd.Q_drewN | apply Kd.Q_drew)); exact Kd.Q_mono (Far.qfar6_ (fun _ hk => hk.2) (Kd.Q_types HO251.out BK220.out (by decide))) (fun _ hk => by first | exact ⟨hk.1.1.1.1.1.1.2, ⟨hk.1.1.1.1.1.2, ⟨hk.1.1.1.1.2, hk.1.2⟩⟩⟩ | simp [hk])⟩, ⟨blkFars⟩, ⟨blkFars⟩, ⟨blkFars⟩, ⟨by (with_reducible repeat (first | refine blk_drewN ?_ _ | refine blk_drew ?_ | refine blk_alloc ?_ _)); refine Far.put6_ #[.int .i64 t211, .int .i64 t212, .int .i64 t213, .int .i64 t214, .int .i64 t215, .slice Ao41 t216.length co41] rfl ?_; (with_reducible repeat (first | refine blk_drewN ?_ _ | refine blk_drew ?_ | refine blk_alloc ?_ _)); exact BK220.out⟩, ⟨belowNow⟩⟩
                        · replace c92 := Bool.eq_false_iff.mpr c92
                          subst c92
                          have H1 : (laws_FnTwice.j3 kj45 l0 t194 x6_45 x7_1 true t232 t233 t234 t235 t236 t237 t244 t245 t246 t247 t248 t249) = some r := by rw [if_neg (show ¬ (false = true) by decide)] at H; exact H
                          clear H
                          have H := H1
                          clear H1
                          as_aux_lemma =>
                            have H' := Aside0.mk H
                            clear H
                            go_wp2
                            go_meet
                            case rel => exact ⟨_, (true), (by first | rfl | (simp; done) | (simp [*]; done)), H', ⟨by have := HK1.out; have := HJ15.out; have := HJ45.out; first | omega | exact Nat.le_refl _⟩, ⟨by (with_reducible repeat (first | apply Kd.R_alloc | apply Kd.R_drewN | apply Kd.R_drew)); exact Kd.R_mono (Far.rfar6_ (fun _ hk => hk.2) (Kd.R_types HO_3.out BK220.out (by decide))) (fun _ hk => by first | exact ⟨hk.1.1.1.1, ⟨hk.1.1.1.2.1, ⟨hk.1.1.2, hk.1.2⟩⟩⟩ | simp [hk])⟩, ⟨by (with_reducible repeat (first | apply Kd.Q_alloc | apply Kd.Q_drewN | apply Kd.Q_drew)); exact Kd.Q_mono (Far.qfar6_ (fun _ hk => hk.2) (Kd.Q_types HO_198005.out BK220.out (by decide))) (fun _ hk => by first | exact ⟨hk.1.1.1.1, ⟨hk.1.1.1.2.1, ⟨hk.1.1.2, hk.1.2⟩⟩⟩ | simp [hk])⟩, ⟨by (with_reducible repeat (first | apply Kd.Q_alloc | apply Kd.Q_drewN | apply Kd.Q_drew)); exact Kd.Q_mono (Far.qfar6_ (fun _ hk => hk.2) (Kd.Q_types HO_199005.out BK220.out (by decide))) (fun _ hk => by first | exact ⟨hk.1.1.1.1, ⟨hk.1.1.1.2.1, ⟨hk.1.1.2, hk.1.2⟩⟩⟩ | simp [hk])⟩, ⟨by (with_reducible repeat (first | apply Kd.Q_alloc | apply Kd.Q_drewN | apply Kd.Q_drew)); exact Kd.Q_mono (Far.qfar6_ (fun _ hk => hk.2) (Kd.Q_types HO239.out BK220.out (by decide))) (fun _ hk => by first | exact ⟨hk.1.1.1.1.1.1.2, ⟨hk.1.1.1.1.1.2, ⟨hk.1.1.1.1.2, hk.1.2⟩⟩⟩ | simp [hk])⟩, ⟨by (with_reducible repeat (first | apply Kd.Q_alloc | apply Kd.Q_drewN | apply Kd.Q_drew)); exact Kd.Q_mono (Far.qfar6_ (fun _ hk => hk.2) (Kd.Q_types HO251.out BK220.out (by decide))) (fun _ hk => by first | exact ⟨hk.1.1.1.1.1.1.2, ⟨hk.1.1.1.1.1.2, ⟨hk.1.1.1.1.2, hk.1.2⟩⟩⟩ | simp [hk])⟩, ⟨blkFars⟩, ⟨blkFars⟩, ⟨blkFars⟩, ⟨by (with_reducible repeat (first | refine blk_drewN ?_ _ | refine blk_drew ?_ | refine blk_alloc ?_ _)); refine Far.put6_ #[.int .i64 t211, .int .i64 t212, .int .i64 t213, .int .i64 t214, .int .i64 t215, .slice Ao41 t216.length co41] rfl ?_; (with_reducible repeat (first | refine blk_drewN ?_ _ | refine blk_drew ?_ | refine blk_alloc ?_ _)); exact BK220.out⟩, ⟨belowNow⟩⟩
                      case rest =>
                        clear HC76
                        try clear c2
                        try clear p2
                        try clear q2
                        try clear hx2
                        try clear c3
                        try clear c4
                        try clear c6
                        try clear p6
                        try clear c7
                        try clear c8
                        try clear c9
                        try clear p21
                        try clear q21
                        try clear hx21
                        try clear p22
                        try clear q22
                        try clear hx22
                        try clear c26
                        try clear c30
                        try clear c39
                        try clear c43
                        try clear c44
                        try clear c60
                        try clear c60b0
                        try clear c60b1
                        try clear c61
                        try clear c61b0
                        try clear c62
                        try clear c62b0
                        try clear p64
                        try clear c77
                        try clear c78
                        try clear c79
                        try clear c82
                        try clear c83
                        try clear c86
                        try clear c92
                        try clear c93
                        try clear c94
                        try clear c96
                        try clear hcz80_0
                        try clear hcz80_1
                        try clear hcz80_2
                        try clear hcz80_3
                        try clear hcz80_4
                        try clear hcz80_5
                        try clear hcz84_0
                        try clear hcz84_1
                        try clear hcz84_2
                        try clear hcz84_3
                        try clear hcz84_4
                        try clear hcz84_5
                        try clear hcz87_0
                        try clear hcz87_1
                        try clear hcz87_2
                        try clear hcz87_3
                        try clear hcz87_4
                        try clear hcz87_5
                        try clear hcz90_0
                        try clear hcz90_1
                        try clear hcz90_2
                        try clear hcz90_3
                        try clear hcz90_4
                        try clear hcz90_5
                        try clear hfz80_0
                        try clear hfz80_1
                        try clear hfz80_2
                        try clear hfz80_3
                        try clear hfz80_4
                        try clear hfz80_5
                        try clear hfz84_0
                        try clear hfz84_1
                        try clear hfz84_2
                        try clear hfz84_3
                        try clear hfz84_4
                        try clear hfz84_5
                        try clear hfz87_0
                        try clear hfz87_1
                        try clear hfz87_2
                        try clear hfz87_3
                        try clear hfz87_4
                        try clear hfz87_5
                        try clear hfz90_0
                        try clear hfz90_1
                        try clear hfz90_2
                        try clear hfz90_3
                        try clear hfz90_4
                        try clear hfz90_5
                        try clear hx210_0
                        try clear hx210_1
                        try clear hx210_10
                        try clear hx210_11
                        try clear hx210_12
                        try clear hx210_13
                        try clear hx210_14
                        try clear hx210_15
                        try clear hx210_16
                        try clear hx210_17
                        try clear hx210_2
                        try clear hx210_3
                        try clear hx210_4
                        try clear hx210_5
                        try clear hx210_6
                        try clear hx210_7
                        try clear hx210_8
                        try clear hx210_9
                        try clear hx222_0
                        try clear hx222_1
                        try clear hx222_10
                        try clear hx222_11
                        try clear hx222_12
                        try clear hx222_13
                        try clear hx222_14
                        try clear hx222_15
                        try clear hx222_16
                        try clear hx222_17
                        try clear hx222_2
                        try clear hx222_3
                        try clear hx222_4
                        try clear hx222_5
                        try clear hx222_6
                        try clear hx222_7
                        try clear hx222_8
                        try clear hx222_9
                        try clear p2
                        try clear p21
                        try clear p210
                        try clear p22
                        try clear p222
                        try clear p6
                        try clear p64
                        try clear q2
                        try clear q21
                        try clear q210
                        try clear q22
                        try clear q222
                        obtain ⟨kq, x106_75, rfl, HA, HJ75, HO_3, HO_198005, HO_199005, HO_210005, HO_221005, BK197, BK198, BK209, BK220, HB⟩ := hcut
                        cases kq with
                        | zero => exact absurd HA.out (by simp [laws_FnTwice.j3])
                        | succ kj75 =>
                          have H := HA.out
                          clear HA
                          simp only [laws_FnTwice.j3] at H
                          by_cases c101 : x106_75 = true
                          · subst c101
                            have H1 : (some false) = some r := by rw [if_pos rfl] at H; exact H
                            clear H
                            have H := H1
                            clear H1
                            as_aux_lemma =>
                              obtain rfl := Option.some.inj H
                              go_wp2
                              go_ret
                              exact ⟨by first | rfl | (simp [errW_none, errW_some] <;> rfl) | (simp [*, errW_none, errW_some] <;> rfl), belowNow⟩
                          · replace c101 := Bool.eq_false_iff.mpr c101
                            subst c101
                            have H1 : (laws_FnTwice.l0 kj75 l0 t194 x6_45 (wrap64 (x7_1 + 1)) t232 t233 t234 t235 t236 t237 t244 t245 t246 t247 t248 t249) = some r := by rw [if_neg (show ¬ (false = true) by decide)] at H; exact H
                            clear H
                            have H := H1
                            clear H1
                            as_aux_lemma =>
                              have H' := Aside0.mk H
                              clear H
                              try go_wp2
                              have n0_ := Aside0.mk (Kd.R_drew HO_3.out)
                              have n1_ := Aside0.mk (Kd.Q_drew HO_198005.out)
                              have n2_ := Aside0.mk (Kd.Q_drew HO_199005.out)
                              have n3_ := Aside0.mk (Kd.Q_drew HO_210005.out)
                              have n4_ := Aside0.mk (Kd.Q_drew HO_221005.out)
                              have n5_ := Aside0.mk (blk_drew BK197.out)
                              have n6_ := Aside0.mk (blk_drew BK198.out)
                              have n7_ := Aside0.mk (blk_drew BK209.out)
                              have n8_ := Aside0.mk (blk_drew BK220.out)
                              have n9_ := Aside0.mk (below_drew1 HB.out)
                              clear HO_3
                              clear HO_198005
                              clear HO_199005
                              clear HO_210005
                              clear HO_221005
                              clear BK197
                              clear BK198
                              clear BK209
                              clear BK220
                              clear HB
                              have HO_3 := n0_
                              have HO_198005 := n1_
                              have HO_199005 := n2_
                              have HO_210005 := n3_
                              have HO_221005 := n4_
                              have BK197 := n5_
                              have BK198 := n6_
                              have BK209 := n7_
                              have BK220 := n8_
                              have HB := n9_
                              clear n0_ n1_ n2_ n3_ n4_ n5_ n6_ n7_ n8_ n9_
                              refine start_ (n := 4) (S := fun w' => w'.heap[gb209]? = some (.cells #[.int .i64 t232, .int .i64 t233, .int .i64 t234, .int .i64 t235, .int .i64 t236, .slice Ao85 t237.length co85] 35 (0, 0)) ∧ w'.heap[gb220]? = some (.cells #[.int .i64 t244, .int .i64 t245, .int .i64 t246, .int .i64 t247, .int .i64 t248, .slice Ao91 t249.length co91] 35 (0, 0))) (ds := []) #[false, false, false, false] (by kernel_rfl) rfl rfl ⟨BK209.out, BK220.out⟩ (fun hHeld => ?_)
                              generalize wc.drew = w102 at HO_3 HO_198005 HO_199005 HO_210005 HO_221005 BK197 BK198 BK209 BK220 HB hHeld ⊢
                              refine take_ (i := 0) (N := some 107) (v := ?_) (a' := ?_) #[true, false, false, false] rfl rfl (by kernel_rfl) (fun _ _ _ h => h) (Or.inl ⟨by rfl, ?_⟩) hHeld ?_ ?_
                              rotate_left
                              · rintro w' ⟨s0, s1⟩
                                first | (refine laws_FnTwice.lb (x := ?_) ?_ ?_ s0 Try.underlying35 rfl ?_; rotate_left; rfl; rfl; kernel_rfl) | (refine laws_FnTwice.lb (x := ?_) ?_ ?_ s1 Try.underlying35 rfl ?_; rotate_left; rfl; rfl; kernel_rfl) | (have c0_0 := (blk_cell s0 0).trans rfl; have c0_1 := (blk_cell s0 1).trans rfl; have c0_2 := (blk_cell s0 2).trans rfl; have c0_3 := (blk_cell s0 3).trans rfl; have c0_4 := (blk_cell s0 4).trans rfl; have c0_5 := (blk_cell s0 5).trans rfl; have c6_0 := (blk_cell s1 0).trans rfl; have c6_1 := (blk_cell s1 1).trans rfl; have c6_2 := (blk_cell s1 2).trans rfl; have c6_3 := (blk_cell s1 3).trans rfl; have c6_4 := (blk_cell s1 4).trans rfl; have c6_5 := (blk_cell s1 5).trans rfl; go_simp; with_reducible rfl)
                              rotate_left
                              · simp only [Act.put, List.setIfInBounds_toArray, List.set_cons_zero, List.set_cons_succ, i64_w, i32_w]
                                rfl
                              refine take_ (i := 1) (N := some 108) (v := ?_) (a' := ?_) #[true, true, false, false] rfl rfl (by kernel_rfl) (fun _ _ _ h => h) (Or.inl ⟨by rfl, ?_⟩) hHeld ?_ ?_
                              rotate_left
                              · rintro w' ⟨s0, s1⟩
                                first | (refine laws_FnTwice.lb (x := ?_) ?_ ?_ s0 Try.underlying35 rfl ?_; rotate_left; rfl; rfl; kernel_rfl) | (refine laws_FnTwice.lb (x := ?_) ?_ ?_ s1 Try.underlying35 rfl ?_; rotate_left; rfl; rfl; kernel_rfl) | (have c0_0 := (blk_cell s0 0).trans rfl; have c0_1 := (blk_cell s0 1).trans rfl; have c0_2 := (blk_cell s0 2).trans rfl; have c0_3 := (blk_cell s0 3).trans rfl; have c0_4 := (blk_cell s0 4).trans rfl; have c0_5 := (blk_cell s0 5).trans rfl; have c6_0 := (blk_cell s1 0).trans rfl; have c6_1 := (blk_cell s1 1).trans rfl; have c6_2 := (blk_cell s1 2).trans rfl; have c6_3 := (blk_cell s1 3).trans rfl; have c6_4 := (blk_cell s1 4).trans rfl; have c6_5 := (blk_cell s1 5).trans rfl; go_simp; with_reducible rfl)
                              rotate_left
                              · simp only [Act.put, List.setIfInBounds_toArray, List.set_cons_zero, List.set_cons_succ, i64_w, i32_w]
                                rfl
                              refine one_ (i := 2) (N := none) #[true, true, true, false] rfl rfl (by kernel_rfl) (by decide) (fun K hK => ?_)
                              refine skip_ (w1 := ?_) (by rfl) rfl ?_ ?_
                              rotate_left
                              · refine laws_FnTwice.sb6 (x := ?_) (y := ?_) (T := ?_) (u0 := ?_) (u1 := ?_) (u2 := ?_) (u3 := ?_) (u4 := ?_) (u5 := ?_) ?_ ?_ ?_ (by with_reducible first | exact BK197.out | exact laws_FnTwice.bfar6 NB197_198.out BK197.out | exact laws_FnTwice.bfar6 NB197_209.out BK197.out | exact laws_FnTwice.bfar6 NB197_220.out BK197.out) (by rfl) ?_ ?_; rotate_left 9; rfl; rfl; rfl; kernel_rfl; simp [Value.oneCell']
                              refine laws_FnTwice.let_ (fun wq5 hwq5 => ?_)
                              refine hK.out _ _ ⟨(by rw [hwq5]; exact (laws_FnTwice.bfar6 NB209_197.out (hHeld.1))), (by rw [hwq5]; exact (laws_FnTwice.bfar6 NB220_197.out (hHeld.2)))⟩ (fun hHeld => ?_)
                              clear hK K
                              refine one_ (i := 3) (N := none) #[true, true, true, true] rfl rfl (by kernel_rfl) (by decide) (fun K hK => ?_)
                              refine skip_ (w1 := ?_) (by rfl) rfl ?_ ?_
                              rotate_left
                              · refine laws_FnTwice.sb6 (W := wq5) (x := ?_) (y := ?_) (T := ?_) (u0 := ?_) (u1 := ?_) (u2 := ?_) (u3 := ?_) (u4 := ?_) (u5 := ?_) ?_ ?_ ?_ (by with_reducible first | exact BK198.out | exact laws_FnTwice.bfar6 NB198_197.out BK198.out | exact laws_FnTwice.bfar6 NB198_209.out BK198.out | exact laws_FnTwice.bfar6 NB198_220.out BK198.out | (rw [hwq5]; first | exact BK198.out | exact laws_FnTwice.bfar6 NB198_197.out BK198.out | exact laws_FnTwice.bfar6 NB198_209.out BK198.out | exact laws_FnTwice.bfar6 NB198_220.out BK198.out)) (by rfl) ?_ ?_; rotate_left 9; rfl; rfl; rfl; kernel_rfl; simp [Value.oneCell']
                              refine laws_FnTwice.let_ (fun wq6 hwq6 => ?_)
                              refine hK.out _ _ ⟨(by rw [hwq6]; exact (laws_FnTwice.bfar6 NB209_198.out (hHeld.1))), (by rw [hwq6]; exact (laws_FnTwice.bfar6 NB220_198.out (hHeld.2)))⟩ (fun hHeld => ?_)
                              clear hK K
                              refine done_ (by kernel_rfl) ?_
                              subst hwq6
                              subst hwq5
                              try go_wp2
                              go_roundg kj75
                              case measure => have := HK1.out; have := HJ15.out; have := HJ45.out; have := HJ75.out; omega
                              case rel => exact ⟨(x6_45), (wrap64 (x7_1 + 1)), (t232), (t233), (t234), (t235), (t236), (t237), (t244), (t245), (t246), (t247), (t248), (t249), (.slice Ao85 t237.length co85), (.slice Ao91 t249.length co91), (by first | rfl | (simp; done) | (simp [*]; done)), (by first | rfl | (simp; done) | (simp [*]; done)), H', ⟨by have := HK1.out; have := HJ15.out; have := HJ45.out; have := HJ75.out; omega⟩, ⟨by (with_reducible repeat (first | apply Kd.R_alloc | apply Kd.R_drewN | apply Kd.R_drew)); exact Kd.R_mono (Far.rfar6_ (fun _ hk => hk.2) (Far.rfar6_ (fun _ hk => hk.1.2) (Kd.R_types (Kd.R_types HO_3.out BK197.out (by decide)) BK198.out (by decide)))) (fun _ hk => by first | exact ⟨hk.1.1.2.2.1, hk.1.1.2.2.2⟩ | simp [hk])⟩, ⟨by (with_reducible repeat (first | apply Kd.Q_alloc | apply Kd.Q_drewN | apply Kd.Q_drew)); exact Kd.Q_mono (Far.qfar6_ (fun _ hk => hk.2) (Far.qfar6_ (fun _ hk => hk.1.2) (Kd.Q_types (Kd.Q_types HO_210005.out BK197.out (by decide)) BK198.out (by decide)))) (fun _ hk => by first | exact ⟨hk.1.1.1, hk.1.1.2.2.2⟩ | simp [hk])⟩, ⟨by (with_reducible repeat (first | apply Kd.Q_alloc | apply Kd.Q_drewN | apply Kd.Q_drew)); exact Kd.Q_mono (Far.qfar6_ (fun _ hk => hk.2) (Far.qfar6_ (fun _ hk => hk.1.2) (Kd.Q_types (Kd.Q_types HO_221005.out BK197.out (by decide)) BK198.out (by decide)))) (fun _ hk => by first | exact ⟨hk.1.1.1, hk.1.1.2.2.2⟩ | simp [hk])⟩, ⟨by (with_reducible repeat (first | refine blk_drewN ?_ _ | refine blk_drew ?_ | refine blk_alloc ?_ _)); refine blk_far ?_ NB197_198.out _; (with_reducible repeat (first | refine blk_drewN ?_ _ | refine blk_drew ?_ | refine blk_alloc ?_ _)); refine blk_far ?_ NB197_198.out _; (with_reducible repeat (first | refine blk_drewN ?_ _ | refine blk_drew ?_ | refine blk_alloc ?_ _)); refine blk_far ?_ NB197_198.out _; (with_reducible repeat (first | refine blk_drewN ?_ _ | refine blk_drew ?_ | refine blk_alloc ?_ _)); refine blk_far ?_ NB197_198.out _; (with_reducible repeat (first | refine blk_drewN ?_ _ | refine blk_drew ?_ | refine blk_alloc ?_ _)); refine blk_far ?_ NB197_198.out _; (with_reducible repeat (first | refine blk_drewN ?_ _ | refine blk_drew ?_ | refine blk_alloc ?_ _)); refine blk_far ?_ NB197_198.out _; (with_reducible repeat (first | refine blk_drewN ?_ _ | refine blk_drew ?_ | refine blk_alloc ?_ _)); refine Far.put6_ #[.int .i64 t200, .int .i64 t201, .int .i64 t202, .int .i64 t203, .int .i64 t204, .slice Ao28 t205.length co28] rfl ?_; (with_reducible repeat (first | refine blk_drewN ?_ _ | refine blk_drew ?_ | refine blk_alloc ?_ _)); exact BK197.out⟩, ⟨by (with_reducible repeat (first | refine blk_drewN ?_ _ | refine blk_drew ?_ | refine blk_alloc ?_ _)); refine Far.put6_ #[.int .i64 x199000_45, .int .i64 x199001_45, .int .i64 x199002_45, .int .i64 x199003_45, .int .i64 x199004_45, .slice Ao88 x199005_45.length co88] rfl ?_; (with_reducible repeat (first | refine blk_drewN ?_ _ | refine blk_drew ?_ | refine blk_alloc ?_ _)); refine blk_far ?_ NB198_197.out _; (with_reducible repeat (first | refine blk_drewN ?_ _ | refine blk_drew ?_ | refine blk_alloc ?_ _)); refine blk_far ?_ NB198_197.out _; (with_reducible repeat (first | refine blk_drewN ?_ _ | refine blk_drew ?_ | refine blk_alloc ?_ _)); refine blk_far ?_ NB198_197.out _; (with_reducible repeat (first | refine blk_drewN ?_ _ | refine blk_drew ?_ | refine blk_alloc ?_ _)); refine blk_far ?_ NB198_197.out _; (with_reducible repeat (first | refine blk_drewN ?_ _ | refine blk_drew ?_ | refine blk_alloc ?_ _)); refine blk_far ?_ NB198_197.out _; (with_reducible repeat (first | refine blk_drewN ?_ _ | refine blk_drew ?_ | refine blk_alloc ?_ _)); refine blk_far ?_ NB198_197.out _; (with_reducible repeat (first | refine blk_drewN ?_ _ | refine blk_drew ?_ | refine blk_alloc ?_ _)); exact BK198.out⟩, ⟨belowNow⟩⟩
          · rw [if_neg c13] at H
            exact absurd H (by simp)
        · rw [if_neg c12] at H
          have c12b0 : decide (x7_1 < (t194.length : Int)) = false := decide_eq_false c12
          clear c12
          by_cases c115 : x199002_1 = x6_1
          · rw [if_pos c115] at H
            have c115b0 : (x199002_1 == x6_1) = true := beq_iff_eq.mpr c115
            have c115b1 : (x199002_1 != x6_1) = false := bne_eq_false_iff_eq.mpr c115
            clear c115
            by_cases c116 : x198002_1 = 0
            · rw [if_pos c116] at H
              have c116b0 : (x198002_1 == 0) = true := beq_iff_eq.mpr c116
              have c116b1 : (x198002_1 != 0) = false := bne_eq_false_iff_eq.mpr c116
              clear c116
              by_cases c117 : x198003_1 = 0
              · rw [if_pos c117] at H
                have c117b0 : (x198003_1 == 0) = true := beq_iff_eq.mpr c117
                have c117b1 : (x198003_1 != 0) = false := bne_eq_false_iff_eq.mpr c117
                clear c117
                by_cases c118 : x199003_1 = 0
                · rw [if_pos c118] at H
                  have c118b0 : (x199003_1 == 0) = true := beq_iff_eq.mpr c118
                  have c118b1 : (x199003_1 != 0) = false := bne_eq_false_iff_eq.mpr c118
                  clear c118
                  as_aux_lemma =>
                    obtain rfl := Option.some.inj H
                    obtain ⟨Ao119, co119, eo119⟩ := Kd.R_slice HO_3.out
                    subst eo119
                    have hnb120 := NB198_197.out
                    have hnc120 := NB197_198.out
                    have hcz121_0 : wr.cell? ⟨gb198, 0, none⟩ = some (.int .i64 x199000_1) := (blk_cell BK198.out 0).trans rfl
                    have hcz121_1 : wr.cell? ⟨gb198, 1, none⟩ = some (.int .i64 x199001_1) := (blk_cell BK198.out 1).trans rfl
                    have hcz121_2 : wr.cell? ⟨gb198, 2, none⟩ = some (.int .i64 x199002_1) := (blk_cell BK198.out 2).trans rfl
                    have hcz121_3 : wr.cell? ⟨gb198, 3, none⟩ = some (.int .i64 x199003_1) := (blk_cell BK198.out 3).trans rfl
                    have hcz121_4 : wr.cell? ⟨gb198, 4, none⟩ = some (.int .i64 x199004_1) := (blk_cell BK198.out 4).trans rfl
                    have hcz121_5 : wr.cell? ⟨gb198, 5, none⟩ = some (u199005) := (blk_cell BK198.out 5).trans rfl
                    have hfz121_0 := blk_frozen BK198.out 0
                    have hfz121_1 := blk_frozen BK198.out 1
                    have hfz121_2 := blk_frozen BK198.out 2
                    have hfz121_3 := blk_frozen BK198.out 3
                    have hfz121_4 := blk_frozen BK198.out 4
                    have hfz121_5 := blk_frozen BK198.out 5
                    have hcz122_0 : wr.cell? ⟨gb197, 0, none⟩ = some (.int .i64 x198000_1) := (blk_cell BK197.out 0).trans rfl
                    have hcz122_1 : wr.cell? ⟨gb197, 1, none⟩ = some (.int .i64 x198001_1) := (blk_cell BK197.out 1).trans rfl
                    have hcz122_2 : wr.cell? ⟨gb197, 2, none⟩ = some (.int .i64 x198002_1) := (blk_cell BK197.out 2).trans rfl
                    have hcz122_3 : wr.cell? ⟨gb197, 3, none⟩ = some (.int .i64 x198003_1) := (blk_cell BK197.out 3).trans rfl
                    have hcz122_4 : wr.cell? ⟨gb197, 4, none⟩ = some (.int .i64 x198004_1) := (blk_cell BK197.out 4).trans rfl
                    have hcz122_5 : wr.cell? ⟨gb197, 5, none⟩ = some (u198005) := (blk_cell BK197.out 5).trans rfl
                    have hfz122_0 := blk_frozen BK197.out 0
                    have hfz122_1 := blk_frozen BK197.out 1
                    have hfz122_2 := blk_frozen BK197.out 2
                    have hfz122_3 := blk_frozen BK197.out 3
                    have hfz122_4 := blk_frozen BK197.out 4
                    have hfz122_5 := blk_frozen BK197.out 5
                    go_wp2
                    go_ret
                    exact ⟨by first | rfl | (simp [errW_none, errW_some] <;> rfl) | (simp [*, errW_none, errW_some] <;> rfl), belowNow⟩
                · rw [if_neg c118] at H
                  have c118b0 : (x199003_1 == 0) = false := beq_eq_false_iff_ne.mpr c118
                  have c118b1 : (x199003_1 != 0) = true := bne_iff_ne.mpr c118
                  as_aux_lemma =>
                    obtain rfl := Option.some.inj H
                    obtain ⟨Ao123, co123, eo123⟩ := Kd.R_slice HO_3.out
                    subst eo123
                    have hnb124 := NB198_197.out
                    have hnc124 := NB197_198.out
                    have hcz125_0 : wr.cell? ⟨gb198, 0, none⟩ = some (.int .i64 x199000_1) := (blk_cell BK198.out 0).trans rfl
                    have hcz125_1 : wr.cell? ⟨gb198, 1, none⟩ = some (.int .i64 x199001_1) := (blk_cell BK198.out 1).trans rfl
                    have hcz125_2 : wr.cell? ⟨gb198, 2, none⟩ = some (.int .i64 x199002_1) := (blk_cell BK198.out 2).trans rfl
                    have hcz125_3 : wr.cell? ⟨gb198, 3, none⟩ = some (.int .i64 x199003_1) := (blk_cell BK198.out 3).trans rfl
                    have hcz125_4 : wr.cell? ⟨gb198, 4, none⟩ = some (.int .i64 x199004_1) := (blk_cell BK198.out 4).trans rfl
                    have hcz125_5 : wr.cell? ⟨gb198, 5, none⟩ = some (u199005) := (blk_cell BK198.out 5).trans rfl
                    have hfz125_0 := blk_frozen BK198.out 0
                    have hfz125_1 := blk_frozen BK198.out 1
                    have hfz125_2 := blk_frozen BK198.out 2
                    have hfz125_3 := blk_frozen BK198.out 3
                    have hfz125_4 := blk_frozen BK198.out 4
                    have hfz125_5 := blk_frozen BK198.out 5
                    have hcz126_0 : wr.cell? ⟨gb197, 0, none⟩ = some (.int .i64 x198000_1) := (blk_cell BK197.out 0).trans rfl
                    have hcz126_1 : wr.cell? ⟨gb197, 1, none⟩ = some (.int .i64 x198001_1) := (blk_cell BK197.out 1).trans rfl
                    have hcz126_2 : wr.cell? ⟨gb197, 2, none⟩ = some (.int .i64 x198002_1) := (blk_cell BK197.out 2).trans rfl
                    have hcz126_3 : wr.cell? ⟨gb197, 3, none⟩ = some (.int .i64 x198003_1) := (blk_cell BK197.out 3).trans rfl
                    have hcz126_4 : wr.cell? ⟨gb197, 4, none⟩ = some (.int .i64 x198004_1) := (blk_cell BK197.out 4).trans rfl
                    have hcz126_5 : wr.cell? ⟨gb197, 5, none⟩ = some (u198005) := (blk_cell BK197.out 5).trans rfl
                    have hfz126_0 := blk_frozen BK197.out 0
                    have hfz126_1 := blk_frozen BK197.out 1
                    have hfz126_2 := blk_frozen BK197.out 2
                    have hfz126_3 := blk_frozen BK197.out 3
                    have hfz126_4 := blk_frozen BK197.out 4
                    have hfz126_5 := blk_frozen BK197.out 5
                    go_wp2
                    go_ret
                    exact ⟨by first | rfl | (simp [errW_none, errW_some] <;> rfl) | (simp [*, errW_none, errW_some] <;> rfl), belowNow⟩
              · rw [if_neg c117] at H
                have c117b0 : (x198003_1 == 0) = false := beq_eq_false_iff_ne.mpr c117
                have c117b1 : (x198003_1 != 0) = true := bne_iff_ne.mpr c117
                as_aux_lemma =>
                  obtain rfl := Option.some.inj H
                  obtain ⟨Ao127, co127, eo127⟩ := Kd.R_slice HO_3.out
                  subst eo127
                  have hnb128 := NB198_197.out
                  have hnc128 := NB197_198.out
                  have hcz129_0 : wr.cell? ⟨gb198, 0, none⟩ = some (.int .i64 x199000_1) := (blk_cell BK198.out 0).trans rfl
                  have hcz129_1 : wr.cell? ⟨gb198, 1, none⟩ = some (.int .i64 x199001_1) := (blk_cell BK198.out 1).trans rfl
                  have hcz129_2 : wr.cell? ⟨gb198, 2, none⟩ = some (.int .i64 x199002_1) := (blk_cell BK198.out 2).trans rfl
                  have hcz129_3 : wr.cell? ⟨gb198, 3, none⟩ = some (.int .i64 x199003_1) := (blk_cell BK198.out 3).trans rfl
                  have hcz129_4 : wr.cell? ⟨gb198, 4, none⟩ = some (.int .i64 x199004_1) := (blk_cell BK198.out 4).trans rfl
                  have hcz129_5 : wr.cell? ⟨gb198, 5, none⟩ = some (u199005) := (blk_cell BK198.out 5).trans rfl
                  have hfz129_0 := blk_frozen BK198.out 0
                  have hfz129_1 := blk_frozen BK198.out 1
                  have hfz129_2 := blk_frozen BK198.out 2
                  have hfz129_3 := blk_frozen BK198.out 3
                  have hfz129_4 := blk_frozen BK198.out 4
                  have hfz129_5 := blk_frozen BK198.out 5
                  have hcz130_0 : wr.cell? ⟨gb197, 0, none⟩ = some (.int .i64 x198000_1) := (blk_cell BK197.out 0).trans rfl
                  have hcz130_1 : wr.cell? ⟨gb197, 1, none⟩ = some (.int .i64 x198001_1) := (blk_cell BK197.out 1).trans rfl
                  have hcz130_2 : wr.cell? ⟨gb197, 2, none⟩ = some (.int .i64 x198002_1) := (blk_cell BK197.out 2).trans rfl
                  have hcz130_3 : wr.cell? ⟨gb197, 3, none⟩ = some (.int .i64 x198003_1) := (blk_cell BK197.out 3).trans rfl
                  have hcz130_4 : wr.cell? ⟨gb197, 4, none⟩ = some (.int .i64 x198004_1) := (blk_cell BK197.out 4).trans rfl
                  have hcz130_5 : wr.cell? ⟨gb197, 5, none⟩ = some (u198005) := (blk_cell BK197.out 5).trans rfl
                  have hfz130_0 := blk_frozen BK197.out 0
                  have hfz130_1 := blk_frozen BK197.out 1
                  have hfz130_2 := blk_frozen BK197.out 2
                  have hfz130_3 := blk_frozen BK197.out 3
                  have hfz130_4 := blk_frozen BK197.out 4
                  have hfz130_5 := blk_frozen BK197.out 5
                  go_wp2
                  go_ret
                  exact ⟨by first | rfl | (simp [errW_none, errW_some] <;> rfl) | (simp [*, errW_none, errW_some] <;> rfl), belowNow⟩
            · rw [if_neg c116] at H
              have c116b0 : (x198002_1 == 0) = false := beq_eq_false_iff_ne.mpr c116
              have c116b1 : (x198002_1 != 0) = true := bne_iff_ne.mpr c116
              as_aux_lemma =>
                obtain rfl := Option.some.inj H
                obtain ⟨Ao131, co131, eo131⟩ := Kd.R_slice HO_3.out
                subst eo131
                have hnb132 := NB198_197.out
                have hnc132 := NB197_198.out
                have hcz133_0 : wr.cell? ⟨gb198, 0, none⟩ = some (.int .i64 x199000_1) := (blk_cell BK198.out 0).trans rfl
                have hcz133_1 : wr.cell? ⟨gb198, 1, none⟩ = some (.int .i64 x199001_1) := (blk_cell BK198.out 1).trans rfl
                have hcz133_2 : wr.cell? ⟨gb198, 2, none⟩ = some (.int .i64 x199002_1) := (blk_cell BK198.out 2).trans rfl
                have hcz133_3 : wr.cell? ⟨gb198, 3, none⟩ = some (.int .i64 x199003_1) := (blk_cell BK198.out 3).trans rfl
                have hcz133_4 : wr.cell? ⟨gb198, 4, none⟩ = some (.int .i64 x199004_1) := (blk_cell BK198.out 4).trans rfl
                have hcz133_5 : wr.cell? ⟨gb198, 5, none⟩ = some (u199005) := (blk_cell BK198.out 5).trans rfl
                have hfz133_0 := blk_frozen BK198.out 0
                have hfz133_1 := blk_frozen BK198.out 1
                have hfz133_2 := blk_frozen BK198.out 2
                have hfz133_3 := blk_frozen BK198.out 3
                have hfz133_4 := blk_frozen BK198.out 4
                have hfz133_5 := blk_frozen BK198.out 5
                have hcz134_0 : wr.cell? ⟨gb197, 0, none⟩ = some (.int .i64 x198000_1) := (blk_cell BK197.out 0).trans rfl
                have hcz134_1 : wr.cell? ⟨gb197, 1, none⟩ = some (.int .i64 x198001_1) := (blk_cell BK197.out 1).trans rfl
                have hcz134_2 : wr.cell? ⟨gb197, 2, none⟩ = some (.int .i64 x198002_1) := (blk_cell BK197.out 2).trans rfl
                have hcz134_3 : wr.cell? ⟨gb197, 3, none⟩ = some (.int .i64 x198003_1) := (blk_cell BK197.out 3).trans rfl
                have hcz134_4 : wr.cell? ⟨gb197, 4, none⟩ = some (.int .i64 x198004_1) := (blk_cell BK197.out 4).trans rfl
                have hcz134_5 : wr.cell? ⟨gb197, 5, none⟩ = some (u198005) := (blk_cell BK197.out 5).trans rfl
                have hfz134_0 := blk_frozen BK197.out 0
                have hfz134_1 := blk_frozen BK197.out 1
                have hfz134_2 := blk_frozen BK197.out 2
                have hfz134_3 := blk_frozen BK197.out 3
                have hfz134_4 := blk_frozen BK197.out 4
                have hfz134_5 := blk_frozen BK197.out 5
                go_wp2
                go_ret
                exact ⟨by first | rfl | (simp [errW_none, errW_some] <;> rfl) | (simp [*, errW_none, errW_some] <;> rfl), belowNow⟩
          · rw [if_neg c115] at H
            have c115b0 : (x199002_1 == x6_1) = false := beq_eq_false_iff_ne.mpr c115
            have c115b1 : (x199002_1 != x6_1) = true := bne_iff_ne.mpr c115
            as_aux_lemma =>
              obtain rfl := Option.some.inj H
              obtain ⟨Ao135, co135, eo135⟩ := Kd.R_slice HO_3.out
              subst eo135
              have hnb136 := NB198_197.out
              have hnc136 := NB197_198.out
              have hcz137_0 : wr.cell? ⟨gb198, 0, none⟩ = some (.int .i64 x199000_1) := (blk_cell BK198.out 0).trans rfl
              have hcz137_1 : wr.cell? ⟨gb198, 1, none⟩ = some (.int .i64 x199001_1) := (blk_cell BK198.out 1).trans rfl
              have hcz137_2 : wr.cell? ⟨gb198, 2, none⟩ = some (.int .i64 x199002_1) := (blk_cell BK198.out 2).trans rfl
              have hcz137_3 : wr.cell? ⟨gb198, 3, none⟩ = some (.int .i64 x199003_1) := (blk_cell BK198.out 3).trans rfl
              have hcz137_4 : wr.cell? ⟨gb198, 4, none⟩ = some (.int .i64 x199004_1) := (blk_cell BK198.out 4).trans rfl
              have hcz137_5 : wr.cell? ⟨gb198, 5, none⟩ = some (u199005) := (blk_cell BK198.out 5).trans rfl
              have hfz137_0 := blk_frozen BK198.out 0
              have hfz137_1 := blk_frozen BK198.out 1
              have hfz137_2 := blk_frozen BK198.out 2
              have hfz137_3 := blk_frozen BK198.out 3
              have hfz137_4 := blk_frozen BK198.out 4
              have hfz137_5 := blk_frozen BK198.out 5
              go_wp2
              go_ret
              exact ⟨by first | rfl | (simp [errW_none, errW_some] <;> rfl) | (simp [*, errW_none, errW_some] <;> rfl), belowNow⟩

/-- THE ONE PURE STATEMENT of laws_FnTwice: yours. -/
def laws_FnTwice.Pure : Prop := ∀ (l0 : List Int), l0.length ≤ maxLen → l0.length * 1 ≤ 140737488351232 → (∀ x ∈ l0, (Lit.int .u8 x).wf = true) → ∃ k, laws_FnTwice.f k l0 = some true
theorem laws_FnTwice.walk (P : laws_FnTwice.Pure) (a0 : Option Addr) (len0 cap0 : Nat) (z0 : List Int) (w : World) (w0 : (a0 = none ∧ len0 = 0 ∧ cap0 = 0 ∧ z0 = []) ∨ ∃ x, a0 = some x ∧ len0 ≤ cap0 ∧ cap0 ≤ maxLen ∧ z0.length = cap0 ∧ (∀ i, i < z0.length → w.cell? (x.add i) = some (.int .u8 (z0.getD i 0))) ∧ ∀ n ∈ z0, (Lit.int .u8 n).wf = true) (y0 : len0 * 1 ≤ 140737488351232) :
    Calls Try.prog 9 #[.slice a0 len0 cap0] w fun e w' => e = .returned (.bool true) ∧ Below w.heap.size w w' := by
  obtain ⟨l0, rfl, hr0, hm0, hw0, hc0⟩ := ReadsInt.ofRowC w0
  obtain ⟨k, h⟩ := P l0 hm0 y0 hw0
  refine (laws_FnTwice.calls k _ _ l0 true w (Kd.C_of_reads (d := (0 : Int)) (h1 := fun _ => rfl) hr0) hc0 h).mono ?_
  rintro e w' ⟨rfl, hd⟩
  exact ⟨rfl, hd⟩

end Go.Proofs.Ytbgdmbjipladoaa.PFnTwice
