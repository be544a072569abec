/- A map from keys to true that a call makes and asks: a set of keys, told as a list. No condition. -/
import Derived.WalkKit
import Derived.Maps.Own
import Derived.Maps.OwnOps
import Derived.RowKit3
import Derived.Below
import Derived.KernelRfl
import Derived.MapKept
import Derived.Deep.Draws
set_option linter.unusedVariables false
set_option linter.unusedSimpArgs false
namespace Go.Proofs.Ytbgdmbjipladoaa.Sets
open Go.RowKit

/-- q says whether p: kept from the walk's simp. -/
structure Tells (q : Bool) (p : Prop) : Prop where
  out : q = true ↔ p
/-- Where a key stands among the entries. -/
def hit {α : Type} [DecidableEq α] (x : α) : List α → List MapEntry → Nat → Option (Nat × Value)
  | a :: xs, e :: es, i => if x = a then some (i, e.val) else hit x xs es (i + 1)
  | _, _, _ => none
structure KeyKind {α : Type} [DecidableEq α] (P : Program) (K : TypeId) (enc : α → Value) : Prop where
  chk : ∀ (e : Bool) (x : α) (w : World), (Instr.checkKey e 10000 K (enc x)).run P w = .ok () w
  find : ∀ (x : α) (es : List MapEntry) (xs : List α) (w : World), es.map (·.key) = xs.map enc → (Instr.findKey K (enc x) es).run P w = .ok (hit x xs es 0) w
  same : ∀ x, Instr.sameBits 10000 (enc x) (enc x) = true

theorem hit_none {α : Type} [DecidableEq α] (x : α) : ∀ (xs : List α) (es : List MapEntry) (i : Nat), x ∉ xs → hit x xs es i = none
  | [], es, i, _ => by cases es <;> rfl
  | a :: xs, [], i, _ => rfl
  | a :: xs, e :: es, i, h => by
    have h1 : x ≠ a := fun q => h (q ▸ List.mem_cons_self)
    have h2 : x ∉ xs := fun q => h (List.mem_cons_of_mem _ q)
    rw [hit, if_neg h1]
    exact hit_none x xs es (i + 1) h2
theorem hit_some {α : Type} [DecidableEq α] (x : α) (enc : α → Value) : ∀ (xs : List α) (es : List MapEntry) (i : Nat), es.map (·.key) = xs.map enc → (∀ e ∈ es, e.val = .bool true) → x ∈ xs →
    ∃ j, hit x xs es i = some (i + j, .bool true) ∧ ∃ e, es[j]? = some e ∧ e.key = enc x
  | [], es, i, _, _, h => by simp at h
  | a :: xs, [], i, h, _, _ => by simp at h
  | a :: xs, e :: es, i, hk, hv, h => by
    simp only [List.map_cons, List.cons.injEq] at hk
    by_cases c : x = a
    · subst c
      refine ⟨0, ?_, e, rfl, hk.1⟩
      rw [hit, if_pos rfl, hv e List.mem_cons_self]
      rfl
    · have h2 : x ∈ xs := by
        rcases List.mem_cons.1 h with q | q
        · exact absurd q c
        · exact q
      obtain ⟨j, h3, e', h4, h5⟩ := hit_some x enc xs es (i + 1) hk.2 (fun e he => hv e (List.mem_cons_of_mem _ he)) h2
      refine ⟨j + 1, ?_, e', by simpa using h4, h5⟩
      rw [hit, if_neg c, h3]
      congr 2
      omega
/-! Keys that are whole numbers -/
theorem findNow_int {k : IntKind} (x : Int) : ∀ (es : List MapEntry) (xs : List Int) (i : Nat), es.map (·.key) = xs.map (Value.int k) → Instr.findNow (.int k) (.int k x) es i = some (hit x xs es i)
  | [], [], i, _ => rfl
  | [], a :: xs, i, h => by simp at h
  | e :: es, [], i, h => by simp at h
  | e :: es, a :: xs, i, h => by
    simp only [List.map_cons, List.cons.injEq] at h
    have hs : Instr.sameNow (.int k) (.int k x) e.key = some (x == a) := by rw [h.1]; simp [Instr.sameNow]
    by_cases c : x = a
    · subst c
      simp only [Instr.findNow, hs, beq_self_eq_true, hit, if_true]
    · have : (x == a) = false := by simpa using c
      simp only [Instr.findNow, hs, this, hit, if_neg c]
      exact findNow_int x es xs (i + 1) h.2
theorem KeyKind.int {P : Program} {K : TypeId} {k : IntKind} (hK : P.underlying K = some (.int k)) : KeyKind P K (Value.int k) where
  chk := by
    intro e x w
    show (Instr.checkKey e (9999 + 1) K (.int k x)).run P w = _
    rw [Instr.checkKey, Sem.run_bind, run_underlying hK]
    rfl
  find := by
    intro x es xs w h
    rw [Instr.findKey, Sem.run_bind, run_underlying hK]
    simp [findNow_int x es xs 0 h]
  same := by intro x; simp [Instr.sameBits]
/-! Keys that are asked part by part -/
theorem findAsking_eq {α : Type} [DecidableEq α] {P : Program} {K : TypeId} {enc : α → Value} (heq : ∀ x y w, (Op.equal K (enc x) (enc y)).run P w = .ok (decide (x = y)) w) (x : α) (w : World) :
    ∀ (es : List MapEntry) (xs : List α) (i : Nat), es.map (·.key) = xs.map enc → (Instr.findAsking K (enc x) es i).run P w = .ok (hit x xs es i) w
  | [], [], i, _ => by simp [Instr.findAsking, hit]
  | [], a :: xs, i, h => by simp at h
  | e :: es, [], i, h => by simp at h
  | e :: es, a :: xs, i, h => by
    simp only [List.map_cons, List.cons.injEq] at h
    by_cases c : x = a
    · subst c
      simp [Instr.findAsking, h.1, heq, hit]
    · have ih := findAsking_eq heq x w es xs (i + 1) h.2
      simp [Instr.findAsking, h.1, heq, hit, c, ih]
theorem KeyKind.asked {α : Type} [DecidableEq α] {P : Program} {K : TypeId} {enc : α → Value} {d : TypeDesc} (hK : P.underlying K = some d) (hn : ∀ x y, Instr.sameNow d (enc x) (enc y) = none)
    (hc : ∀ (e : Bool) (x : α) (w : World), (Instr.checkKey e 10000 K (enc x)).run P w = .ok () w) (heq : ∀ x y w, (Op.equal K (enc x) (enc y)).run P w = .ok (decide (x = y)) w)
    (hs : ∀ x, Instr.sameBits 10000 (enc x) (enc x) = true) : KeyKind P K enc where
  chk := hc
  find := by
    intro x es xs w h
    cases es with
    | nil =>
      cases xs with
      | nil =>
        rw [Instr.findKey, Sem.run_bind, run_underlying hK]
        simp [Instr.findNow, hit]
      | cons a xs => simp at h
    | cons e es =>
      cases xs with
      | nil => simp at h
      | cons a xs =>
        have h' := h
        simp only [List.map_cons, List.cons.injEq] at h'
        have hf : Instr.findNow d (enc x) (e :: es) 0 = none := by simp [Instr.findNow, h'.1, hn]
        rw [Instr.findKey, Sem.run_bind, run_underlying hK]
        simp only [Result.andThen_ok, hf]
        exact findAsking_eq heq x w (e :: es) (a :: xs) 0 h
  same := hs

/-- Block b is a map whose keys are xs, each with true. -/
def IsSet {α : Type} (enc : α → Value) (w : World) (b : Nat) (xs : List α) : Prop :=
  ∃ es clock, w.heap[b]? = some (.map es clock) ∧ es.toList.map (·.key) = xs.map enc ∧ ∀ e ∈ es.toList, e.val = .bool true
theorem IsSet.of_heap {α : Type} {enc : α → Value} {w w' : World} {b : Nat} {xs : List α} (h : IsSet enc w b xs) (hh : w'.heap[b]? = w.heap[b]?) : IsSet enc w' b xs := by
  obtain ⟨es, c, h1, h2, h3⟩ := h
  exact ⟨es, c, hh.trans h1, h2, h3⟩
theorem IsSet.lt {α : Type} {enc : α → Value} {w : World} {b : Nat} {xs : List α} (h : IsSet enc w b xs) : b < w.heap.size := by
  obtain ⟨es, c, h1, _⟩ := h
  exact (Array.getElem?_eq_some_iff.1 h1).1
theorem IsSet.new {α : Type} (enc : α → Value) (w : World) : IsSet enc (w.alloc (.map #[] 0)) w.heap.size [] := by
  refine ⟨#[], 0, ?_, rfl, by simp⟩
  show (w.heap.push _)[w.heap.size]? = _
  simp
theorem IsSet.alloc {α : Type} {enc : α → Value} {w : World} {b : Nat} {xs : List α} (h : IsSet enc w b xs) (o : Obj) : IsSet enc (w.alloc o) b xs := h.of_heap (Below.heap_alloc w o b h.lt)
theorem below_alloc' {B : Nat} {w0 w : World} (h : Below B w0 w) (hb : B ≤ w.heap.size) {o : Obj} : Below B w0 (w.alloc o) := h.trans ⟨rfl, rfl, rfl, by (show _ ≤ (w.heap.push o).size; simp), fun k hk => Below.heap_alloc w o k (by omega)⟩
theorem IsSet.setCell {α : Type} {enc : α → Value} {w : World} {b : Nat} {xs : List α} (h : IsSet enc w b xs) (a : Addr) (v : Value) : IsSet enc (w.setCell a v) b xs := by
  obtain ⟨es, c, h1, h2, h3⟩ := h
  refine ⟨es, c, ?_, h2, h3⟩
  show (w.heap.modify a.block _)[b]? = _
  rw [Array.getElem?_modify]
  split
  · simp [h1]
  · exact h1
theorem IsSet.drew {α : Type} {enc : α → Value} {w : World} {b : Nat} {xs : List α} (h : IsSet enc w b xs) : IsSet enc w.drew b xs := h
theorem IsSet.below {α : Type} {enc : α → Value} {w w' : World} {b : Nat} {xs : List α} (h : IsSet enc w b xs) (hb : Below w.heap.size w w') : IsSet enc w' b xs := h.of_heap (hb.block b h.lt)
theorem IsSet.drewN {α : Type} {enc : α → Value} {w : World} {b : Nat} {xs : List α} (h : IsSet enc w b xs) (n : Nat) : IsSet enc (w.drewN n) b xs := h
theorem look_set {α : Type} [DecidableEq α] {P : Program} {T K E : TypeId} {enc : α → Value} (kk : KeyKind P K enc) (hT : P.underlying T = some (.map K E)) {w : World} (hz : (zeroValue E).run P w = .ok (.bool false) w)
    {b : Nat} {xs : List α} (h : IsSet enc w b xs) (x : α) : (Instr.lookup T (.map (some b)) (enc x) false).run P w = .ok (.bool (decide (x ∈ xs))) w := by
  obtain ⟨es, c, h1, h2, h3⟩ := h
  by_cases hx : x ∈ xs
  · obtain ⟨j, hj, _⟩ := hit_some x enc xs es.toList 0 h2 h3 hx
    rw [Instr.lookup, Sem.run_bind, run_underlying hT]
    simp [MapKept.run_getObj_map h1, kk.chk, kk.find x es.toList xs w h2, hj, hx]
  · rw [Instr.lookup, Sem.run_bind, run_underlying hT]
    simp [MapKept.run_getObj_map h1, kk.chk, kk.find x es.toList xs w h2, hit_none x xs es.toList 0 hx, hx, hz]
theorem put_set {α : Type} [DecidableEq α] {P : Program} {T K E : TypeId} {enc : α → Value} (kk : KeyKind P K enc) (hT : P.underlying T = some (.map K E)) {w : World}
    {b : Nat} {xs : List α} (h : IsSet enc w b xs) (x : α) : ∃ w', (Instr.mapUpdate T (.map (some b)) (enc x) (.bool true)).run P w = .ok () w' ∧ IsSet enc w' b (if x ∈ xs then xs else xs ++ [x]) ∧
      w'.heap.size = w.heap.size ∧ (∀ k, k ≠ b → w'.heap[k]? = w.heap[k]?) ∧ w'.os = w.os ∧ w'.tape = w.tape ∧ w'.output = w.output := by
  have hlt := h.lt
  obtain ⟨es, c, h1, h2, h3⟩ := h
  by_cases hx : x ∈ xs
  · obtain ⟨j, hj, e, he, hk⟩ := hit_some x enc xs es.toList 0 h2 h3 hx
    simp only [Nat.zero_add] at hj
    have he2 : es[j]? = some e := by rw [← Array.getElem?_toList]; exact he
    refine ⟨{ w with heap := w.heap.setIfInBounds b (.map (es.modify j fun e => { key := enc x, val := .bool true, born := e.born }) c) }, by rw [Instr.mapUpdate, Sem.run_bind, run_underlying hT]; simp [MapKept.run_getObj_map h1, MapKept.run_setObj_map _ h1, kk.chk, kk.find x es.toList xs w h2, hj, he2, hk, Instr.keyThatStays, kk.same], ?_, by simp, ?_, rfl, rfl, rfl⟩
    · rw [if_pos hx]
      refine ⟨es.modify j fun e => { key := enc x, val := .bool true, born := e.born }, c, by simp [hlt], ?_, ?_⟩
      · rw [← h2, Array.toList_modify]
        apply List.ext_getElem?
        intro i
        simp only [List.getElem?_map, List.getElem?_modify]
        by_cases q : j = i
        · subst q
          simp [he2, hk]
        · simp [q]
      · intro e' he'
        rw [Array.toList_modify] at he'
        obtain ⟨i, hi⟩ := List.mem_iff_getElem?.1 he'
        rw [List.getElem?_modify] at hi
        by_cases q : j = i
        · subst q
          simp [he2] at hi
          rw [← hi]
        · simp [q] at hi
          exact h3 e' (Array.mem_toList_iff.2 (Array.mem_of_getElem? hi))
    · intro k hk2
      simp [Array.getElem?_setIfInBounds, Ne.symm hk2]
  · refine ⟨{ w with heap := w.heap.setIfInBounds b (.map (es.push { key := enc x, val := .bool true, born := c }) (c + 1)) }, by rw [Instr.mapUpdate, Sem.run_bind, run_underlying hT]; simp [MapKept.run_getObj_map h1, MapKept.run_setObj_map _ h1, kk.chk, kk.find x es.toList xs w h2, hit_none x xs es.toList 0 hx], ?_, by simp, ?_, rfl, rfl, rfl⟩
    · rw [if_neg hx]
      refine ⟨es.push { key := enc x, val := .bool true, born := c }, c + 1, by simp [hlt], by simp [h2], ?_⟩
      intro e he
      simp only [Array.toList_push, List.mem_append, List.mem_singleton] at he
      rcases he with he | rfl
      · exact h3 e he
      · rfl
    · intro k hk2
      simp [Array.getElem?_setIfInBounds, Ne.symm hk2]
/-! The operations, for a walk -/
section
variable {α : Type} [DecidableEq α] {P : Program} {T K E : TypeId} {enc : α → Value} {ops : Array Oper} {rest : List Oper} {o : Oper} {a : Act} {Q : Exit → Act → World → Prop} {w : World}
theorem wpList_look (hw : Region.wanted o (yielded ops a.tmps) = true) {m k : Operand} (ho : o.op = .lookup T m k false) (kk : KeyKind P K enc) (hT : P.underlying T = some (.map K E)) (hz : (zeroValue E).run P w = .ok (.bool false) w)
    {b : Nat} {xs : List α} (h : IsSet enc w b xs) (x : α) (hm : a.eval m = .map (some b)) (hx : a.eval k = enc x) {q : Bool} (hq : Tells q (x ∈ xs))
    (hK : wpList P ops Q rest (a.put o.dst (.bool q)) w) : wpList P ops Q (o :: rest) a w := by
  refine wpList_step fun K' hK' => ?_
  rw [if_pos hw]
  have hrun := look_set kk hT hz h x
  rw [show decide (x ∈ xs) = q by (rw [Bool.eq_iff_iff, hq.out]; simp)] at hrun
  unfold Oper.wp
  simp [execOp, ho, hm, hx, hrun, Result.andThen]
  exact hK' _ _ hK
theorem wpList_put (hg : o.guard = none) {m k v : Operand} (ho : o.op = .mapUpdate T m k v) (kk : KeyKind P K enc) (hT : P.underlying T = some (.map K E))
    {b : Nat} {xs : List α} (h : IsSet enc w b xs) (x : α) (hm : a.eval m = .map (some b)) (hx : a.eval k = enc x) (hv : a.eval v = .bool true) {q : Bool} (hq : Tells q (x ∈ xs)) {w0 : World} {B : Nat} (hB : Below B w0 w) (hb : B ≤ b)
    (hK : ∀ w', IsSet enc w' b (if q = true then xs else xs ++ [x]) → Below B w0 w' → (∀ j, j ≠ b → w'.heap[j]? = w.heap[j]?) → w'.heap.size = w.heap.size → wpList P ops Q rest (a.put o.dst undef) w') : wpList P ops Q (o :: rest) a w := by
  refine wpList_plain hg fun K' hK' => ?_
  obtain ⟨w', hrun, h1, h2, h3, h4, h5, h6⟩ := put_set kk hT h x
  rw [show (if x ∈ xs then xs else xs ++ [x]) = (if q = true then xs else xs ++ [x]) by simp only [hq.out]] at h1
  unfold Oper.wp
  simp [execOp, ho, hm, hx, hv, hrun, Result.andThen]
  refine hK' _ _ (hK w' h1 ⟨h4.trans hB.os, h5.trans hB.tape, h6.trans hB.output, by rw [h2]; exact hB.size, fun j hj => (h3 j (by omega)).trans (hB.block j hj)⟩ h3 h2)
omit [DecidableEq α] in
theorem wpList_new (enc : α → Value) (hg : o.guard = none) (ho : o.op = .makeMap T none) {w0 : World} {B : Nat} (hB : Below B w0 w) (hb : B ≤ w.heap.size)
    (hK : ∀ b w', b = w.heap.size → IsSet enc w' b [] → Below B w0 w' → w'.heap.size = w.heap.size + 1 → wpList P ops Q rest (a.put o.dst (.map (some b))) w') : wpList P ops Q (o :: rest) a w := by
  refine wpList_plain hg fun K' hK' => ?_
  unfold Oper.wp
  simp [execOp, ho, run_makeMap, Result.andThen]
  refine hK' _ _ (hK w.heap.size _ rfl (IsSet.new enc w) (below_alloc' hB hb) (by (show (w.heap.push _).size = _; simp)))
end
end Go.Proofs.Ytbgdmbjipladoaa.Sets
