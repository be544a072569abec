/- An array of bytes in a block of its own, told as a list of numbers; a whole block read and written at once. No condition. -/
import Derived.Test.YtbgdmbjipladoaaVFnExactPlayWWords
import Derived.Test.YtbgdmbjipladoaaVFnExactPlayWMore
import Derived.Laws.Rows
import Derived.Laws.Tables
import Derived.Laws.CopyOwn
set_option linter.unusedVariables false
set_option linter.unusedSimpArgs false
namespace Go.Proofs.Ytbgdmbjipladoaa.Arr
open Go.RowKit Go.Proofs.YtbgdmbjipladoaaW.PrintWords Go.Proofs.YtbgdmbjipladoaaW.PrintMore
/-- Two numbers of each byte: one byte more. -/
theorem two_more (f g : Int → Int) (l : List Int) (i : Nat) (h1 : 1 ≤ i) (h2 : i < l.length) : (((l.take i).drop 1).flatMap fun b => [f b, g b]) ++ [f (rd l (i : Int)), g (rd l (i : Int))] = ((l.take (i + 1)).drop 1).flatMap fun b => [f b, g b] := by
  have e : (l.take (i + 1)).drop 1 = (l.take i).drop 1 ++ [rd l (i : Int)] := by
    rw [List.take_add_one, List.getElem?_eq_getElem h2, List.drop_append_of_le_length (by simp; omega)]
    simp [rd, List.getD_eq_getElem?_getD, List.getElem?_eq_getElem h2]
  rw [e, List.flatMap_append]
  simp
theorem two_len (f g : Int → Int) (l : List Int) : (l.flatMap fun b => [f b, g b]).length = 2 * l.length := by
  induction l with
  | nil => rfl
  | cons a r ih => simp only [List.flatMap_cons, List.length_append, List.length_cons, List.length_nil, ih]; omega
/-- The cells of a list of bytes. -/
def u8s (l : List Int) : Array Value := (l.map (Value.int .u8)).toArray
theorem u8s_size (l : List Int) : (u8s l).size = l.length := by simp [u8s]
theorem u8s_get {l : List Int} {i : Nat} (h : i < l.length) : (u8s l)[i]? = some (.int .u8 (l.getD i 0)) := by
  simp [u8s, List.getD_eq_getElem?_getD, List.getElem?_eq_getElem h]
theorem u8s_set (l : List Int) (i : Nat) (v : Int) : (u8s l).setIfInBounds i (.int .u8 v) = u8s (l.set i v) := by
  simp [u8s, List.map_set]
theorem u8s_one (l : List Int) : (u8s l).all (·.oneCell') = true := by
  simp [u8s, Value.oneCell']
section
variable {w : World} {g : Nat} {l : List Int} {t : TypeId}
theorem cell_of (h : w.heap[g]? = some (.cells (u8s l) t (0, 0))) (i : Int) (h0 : 0 ≤ i) (h1 : i < l.length) : w.cell? ⟨g, i.toNat, none⟩ = some (.int .u8 (rd l i)) := by
  rw [blk_cell h]
  exact u8s_get (by omega)
theorem put_of (h : w.heap[g]? = some (.cells (u8s l) t (0, 0))) (i : Nat) (v : Int) : (w.setCell ⟨g, i, none⟩ (.int .u8 v)).heap[g]? = some (.cells (u8s (l.set i v)) t (0, 0)) := blk_put h i _ (u8s_set l i v)
end
theorem blk_other {w : World} {g g2 j : Nat} {v : Value} {o : Obj} (h : w.heap[g]? = some o) (hne : g2 ≠ g) : (w.setCell ⟨g2, j, none⟩ v).heap[g]? = some o := by
  show (w.heap.modify g2 _)[g]? = _
  rw [Array.getElem?_modify, if_neg hne]
  exact h
section
variable {P : Program} {ops : Array Oper} {rest : List Oper} {o : Oper} {a : Act} {Q : Exit → Act → World → Prop} {W : World}
/-- A whole block is read. -/
theorem load_all (hgd : o.guard = none) {T : TypeId} {p N : Tmp} (ho : o.op = .load T (.tmp p)) (hd : o.dst = some N) {g : Nat} {cs : Array Value} {t : TypeId} {fr : Nat × Nat} {d : TypeDesc}
    (hp : a.eval (.tmp p) = .pointer (some ⟨g, 0, none⟩)) (hb : W.heap[g]? = some (.cells cs t fr)) (hu : P.underlying T = some d) (hr : (match d with | .struct _ | .array _ _ => true | _ => false) = true)
    (hi : (P.info? T).map (·.size) = some cs.size) (h : wpList P ops Q rest (a.put o.dst (.agg cs)) W) : wpList P ops Q (o :: rest) a W := by
  refine wpList_plain hgd fun K hK => ?_
  have hrun : (Instr.loadAt T (.pointer (some ⟨g, 0, none⟩))).run P W = .ok (.agg cs) W := by
    simp only [Instr.loadAt, Instr.sureAddr, Sem.run_bind, Sem.run_pure, Result.andThen_ok, run_loadVar_row W g t T cs fr d hb hu hr hi]
  unfold Oper.wp
  simp only [execOp, ho, hp]
  simp [hrun, Result.andThen]
  exact hK _ _ h
/-- A whole block is written. -/
theorem store_all (hgd : o.guard = none) {T : TypeId} {p : Tmp} {v : Operand} (ho : o.op = .store T (.tmp p) v) (hN : o.dst = none) {g : Nat} {old cs : Array Value} {t : TypeId}
    (hp : a.eval (.tmp p) = .pointer (some ⟨g, 0, none⟩)) (hv : a.eval v = .agg cs) (hb : W.heap[g]? = some (.cells old t (0, 0))) (hi : (P.info? T).map (·.size) = some cs.size) (hs : old.size = cs.size)
    (h1 : cs.all (·.oneCell') = true)
    (h : ∀ w', w'.heap[g]? = some (.cells cs t (0, 0)) → (∀ k, k ≠ g → w'.heap[k]? = W.heap[k]?) → (∀ (B : Nat) (w0 : World), Below B w0 W → B ≤ g → Below B w0 w') → wpList P ops Q rest a w') : wpList P ops Q (o :: rest) a W := by
  refine wpList_plain hgd fun K hK => ?_
  have hrun : (Instr.storeAt T (.pointer (some ⟨g, 0, none⟩)) (.agg cs)).run P W = .ok () (W.setRow g cs) := by
    simp only [Instr.storeAt, Instr.sureAddr, Sem.run_bind, Sem.run_pure, Result.andThen_ok, run_storeVar_row W g t T old cs hb hi hs h1]
  have hrow : (W.setRow g cs).heap[g]? = some (.cells cs t (0, 0)) := by
    simp [World.setRow, Array.getElem?_modify, hb]
  have hexec : (execOp a.eval o).run P W = .ok .skip (W.setRow g cs) := by
    simp only [execOp, ho, hp, hv]
    simp [hrun, Result.andThen]
  unfold Oper.wp
  rw [hexec]
  show K (a.put o.dst undef) (W.setRow g cs)
  rw [hN]
  exact hK _ _ (h _ hrow (fun k hk => setRow_other W g k cs hk) (fun B w0 hB hg => below_setRow hB hg cs))
end
end Go.Proofs.Ytbgdmbjipladoaa.Arr
