/- A struct of many cells is read out of a row as one value, whose cells are told elsewhere. No condition. -/
import Derived.Test.YtbgdmbjipladoaaVFnExactPlayWWords
import Derived.Test.YtbgdmbjipladoaaVFnExactPlayWMore
import Derived.Laws.Rows
import Derived.Laws.Tables
import Derived.Laws.CopyOwn
import Derived.Deep.MidRow
set_option linter.unusedVariables false
set_option linter.unusedSimpArgs false
namespace Go.Proofs.Ytbgdmbjipladoaa.Arl
open Go.RowKit Go.Proofs.YtbgdmbjipladoaaW.PrintWords Go.Proofs.YtbgdmbjipladoaaW.PrintMore
section
variable {P : Program} {ops : Array Oper} {rest : List Oper} {o : Oper} {a : Act} {Q : Exit → Act → World → Prop} {W : World}
theorem loadVar_list {P : Program} {T : TypeId} {ad : Addr} {cl : List Value} {d : TypeDesc} {W : World} (hc : ∀ (j : Nat) (v : Value), cl[j]? = some v → W.cell? (ad.add j) = some v) (hu : P.underlying T = some d) (hr : (match d with | .struct _ | .array _ _ => true | _ => false) = true)
    (hi : (P.info? T).map (·.size) = some cl.length) : (loadVar T ad).run P W = .ok (.agg cl.toArray) W := by
  have hl : (loadCells ad cl.length).run P W = .ok cl.toArray W := run_loadCells_list (P := P) W ad cl hc
  obtain ⟨i, hi1, hi2⟩ := Option.map_eq_some_iff.1 hi
  cases d <;> first | (cases hr; done) | simp [loadVar, isAgg, underlying, hu, sizeOf, typeInfo, hi1, hi2, hl]
/-- Cells that stand in a row are read as one value: the cells are a list that is told elsewhere. -/
theorem load_list (hgd : o.guard = none) {T : TypeId} {p N : Tmp} (ho : o.op = .load T (.tmp p)) (hd : o.dst = some N) {ad : Addr} {cl : List Value} {d : TypeDesc}
    (hp : a.eval (.tmp p) = .pointer (some ad)) (hc : ∀ (j : Nat) (v : Value), cl[j]? = some v → W.cell? (ad.add j) = some v) (hu : P.underlying T = some d) (hr : (match d with | .struct _ | .array _ _ => true | _ => false) = true)
    (hi : (P.info? T).map (·.size) = some cl.length) (h : wpList P ops Q rest (a.put o.dst (.agg cl.toArray)) W) : wpList P ops Q (o :: rest) a W := by
  refine wpList_plain hgd fun K hK => ?_
  have hl : (loadCells ad cl.length).run P W = .ok cl.toArray W := run_loadCells_list (P := P) W ad cl hc
  have hrun : (Instr.loadAt T (.pointer (some ad))).run P W = .ok (.agg cl.toArray) W := by
    have hv : (loadVar T ad).run P W = .ok (.agg cl.toArray) W := by
      obtain ⟨i, hi1, hi2⟩ := Option.map_eq_some_iff.1 hi
      cases d <;> first | (cases hr; done) | simp [loadVar, isAgg, underlying, hu, sizeOf, typeInfo, hi1, hi2, hl]
    simp only [Instr.loadAt, Instr.sureAddr, Sem.run_bind, Sem.run_pure, Result.andThen_ok, hv]
  unfold Oper.wp
  simp only [execOp, ho, hp]
  simp [hrun, Result.andThen]
  exact hK _ _ h
theorem some_of {c : List Value} {j : Nat} {x : Option Value} (h : ∀ u, c[j]? = some u → x = some u) (hj : j < c.length) : x.isSome = true := by rw [h _ (List.getElem?_eq_getElem hj)]; rfl
/-- Cells that stand in a row are written as one value. -/
theorem store_list (hgd : o.guard = none) {T : TypeId} {p : Tmp} {v : Operand} (ho : o.op = .store T (.tmp p) v) (hN : o.dst = none) {g off : Nat} {cl : List Value}
    (hp : a.eval (.tmp p) = .pointer (some ⟨g, off, none⟩)) (hv : a.eval v = .agg cl.toArray) (hb : W.there g off cl.length) (hi : (P.info? T).map (·.size) = some cl.length)
    (h1 : cl.all (·.oneCell') = true) (h : ∀ w', w' = W.setCells g off cl → wpList P ops Q rest a w') : wpList P ops Q (o :: rest) a W := by
  refine wpList_plain hgd fun K hK => ?_
  have hrun : (Instr.storeAt T (.pointer (some ⟨g, off, none⟩)) (.agg cl.toArray)).run P W = .ok () (W.setCells g off cl) := by
    have := run_storeAt_mid (P := P) W g off T cl.toArray (by simpa using hb) (by simpa using hi) (by simpa using h1)
    simpa using this
  have hexec : (execOp a.eval o).run P W = .ok .skip (W.setCells g off cl) := by
    simp only [execOp, ho, hp, hv]
    simp [hrun, Result.andThen]
  unfold Oper.wp
  rw [hexec]
  show K (a.put o.dst undef) (W.setCells g off cl)
  rw [hN]
  exact hK _ _ (h _ rfl)
theorem below_cells {B : Nat} {w0 W : World} (h : Below B w0 W) {g : Nat} (hg : B ≤ g) : ∀ (cl : List Value) (off : Nat) (W : World), Below B w0 W → Below B w0 (W.setCells g off cl)
  | [], _, _, h => h
  | v :: r, off, W, h => below_cells h hg r (off + 1) (W.setCell ⟨g, off, none⟩ v) (h.setCell hg v)
/-- An operation of a region that draws its order, by its number; as it is written out. -/
def nth : List Oper → Nat → Option Oper
  | [], _ => none
  | o :: _, 0 => some o
  | _ :: r, n + 1 => nth r n
theorem nth_get : ∀ (l : List Oper) (i : Nat), nth l i = l[i]?
  | [], _ => by simp [nth]
  | o :: r, 0 => by simp [nth]
  | o :: r, n + 1 => by simp [nth, nth_get r n]
theorem nth_some {ops : Array Oper} {i : Nat} {oi : Oper} (hi : nth ops.toList i = some oi) : ops[i]? = some oi := by
  rw [nth_get] at hi
  simpa using hi
theorem take {md : Region.Mode} {S : World → Prop} {i : Nat} {oi : Oper} {v : Value} {fuel : Nat} {listed : Array Bool} (hi : nth ops.toList i = some oi)
    (hs : Region.noSelect ops = true) (hf : Region.free md ops listed i = true) (hr : (Region.ready md ops listed).contains i = true)
    (hQ : ∀ c a w, Q (.panic c) (a.put oi.dst v) w → Q (.panic c) a w) (hw : Region.wanted oi (yielded ops a.tmps) = true) (hv : ∀ w, S w → (execOp a.eval oi).run P w = .ok (.value v) w) (hS : S W)
    (h : wpAnyH P md ops Q S fuel (listed.setIfInBounds i true) (a.put oi.dst v) W) : wpAnyH P md ops Q S (fuel + 1) listed a W :=
  wpAnyH_take (nth_some hi) hs hf hr hQ (Or.inl ⟨hw, hv⟩) hS h
theorem loads {S : World → Prop} {T : TypeId} {x : Operand} (ho : o.op = .load T x) {ad : Addr} {cl : List Value} {d : TypeDesc}
    (hp : a.eval x = .pointer (some ad)) (hc : ∀ W, S W → ∀ (j : Nat) (v : Value), cl[j]? = some v → W.cell? (ad.add j) = some v) (hu : P.underlying T = some d) (hr : (match d with | .struct _ | .array _ _ => true | _ => false) = true)
    (hi : (P.info? T).map (·.size) = some cl.length) : ∀ W, S W → (execOp a.eval o).run P W = .ok (.value (.agg cl.toArray)) W := fun W hS => by
  have hv := loadVar_list (P := P) (hc W hS) hu hr hi
  unfold execOp
  simp only [ho, hp, Instr.loadAt, Instr.sureAddr, Sem.run_bind, Sem.run_pure, Result.andThen_ok, hv]
end
end Go.Proofs.Ytbgdmbjipladoaa.Arl
