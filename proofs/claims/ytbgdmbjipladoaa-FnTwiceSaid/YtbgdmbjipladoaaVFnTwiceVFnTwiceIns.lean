/- slices.Insert of one packet into a row of one's own; the list has it at the place then. No condition but what the theorems say. -/
import Derived.Test.YtbgdmbjipladoaaProg
import Derived.Test.YtbgdmbjipladoaaVFnTwiceVFnTwiceWWords
import Derived.Test.YtbgdmbjipladoaaVFnTwiceVFnTwiceWLast
import Derived.Test.YtbgdmbjipladoaaVFnTwiceVFnTwiceWMore
import Derived.Shelf.Spec.SlicesInsertGrow
set_option linter.unusedVariables false
set_option linter.unusedSimpArgs false
namespace Go.Proofs.Ytbgdmbjipladoaa.Ins
open Go.RowKit Go.Lib Go.Proofs.YtbgdmbjipladoaaW.PrintWords Go.Proofs.YtbgdmbjipladoaaW.PrintLast Go.Proofs.YtbgdmbjipladoaaW.PrintMore
section
variable {P : Program}
/-- copy, of elements of several cells: all is read before anything is written. -/
theorem run_copyN (z : Nat) (w : World) (dT sT ty elem : TypeId) (b o dLen dCap : Nat) (a : Addr) (sLen sCap : Nat) (cs : List Value)
    (hu : P.underlying dT = some (.slice elem)) (hs : (P.info? elem).map (·.size) = some z) (hn : cs.length = Nat.min sLen dLen * z)
    (hsrc : ∀ j v, cs[j]? = some v → w.cell? (a.add j) = some v) (hc : ∀ j, j < cs.length → (w.cell? ⟨b, o + j, none⟩).isSome = true) (hf : ∀ j, j < cs.length → w.frozen? ⟨b, o + j, none⟩ = false) (h1 : ∀ v ∈ cs, v.oneCell' = true) :
    (Builtin.copy_ #[dT, sT] ty #[.slice (some ⟨b, o, none⟩) dLen dCap, .slice (some a) sLen sCap]).run P w = .ok (goInt (Nat.min sLen dLen)) (w.setCells b o cs) := by
  have hl := run_loadCells_list (P := P) w a cs hsrc
  have hst := run_storeCells_cells (P := P) b o cs 0 w (by simpa using hc) (by simpa using hf) h1
  cases hq : P.info? elem with
  | none => simp [hq] at hs
  | some i =>
    have hi : i.size = z := by simpa [hq] using hs
    simp [Builtin.copy_, run_underlying hu, Builtin.lenOf, Builtin.firstCells, sizeOf, typeInfo, hq, hi, ← hn, hl, hst]
/-- s[:j], j up to the capacity. -/
theorem cut_ext (t e : TypeId) (kh : IntKind) {i : TypeInfo} (ht : P.underlying t = some (.slice e)) (hi : P.info? e = some i) (A : Option Addr) (n c : Nat) (j : Int) (h0 : 0 ≤ j) (hm : j ≤ c) :
    ∀ W : World, (Instr.slice t (.slice A n c) none (some (.int kh j)) none).run P W = .ok (.slice A j.toNat c) W := by
  intro W
  have hel : P.elem t = e := by simp [Program.elem, ht]
  have hu : P.underlying t = some (.slice (P.elem t)) := by rw [hel]; exact ht
  have ha : (A.map fun x => x.add 0) = A := by cases A <;> simp [Addr.add]
  rw [run_slice_h W t A n c hu kh j h0 (by omega), hel]
  simp [sizeOf, typeInfo, hi, sliced, Result.andThen, ha]
end
def z44v : Value := (.agg #[(.int .i64 0), (.int .i64 0), (.int .u8 0), (.int .u8 0), (.int .u8 0), (.int .u8 0), (.int .u8 0), (.int .u8 0), (.int .u8 0), (.int .u8 0), (.int .u8 0), (.int .u8 0), (.int .u8 0), (.int .u8 0), (.int .u8 0), (.int .u8 0), (.int .u8 0), (.int .u8 0)])
theorem info44 : (Try.prog.info? 44).map (fun i => (i.zero, i.size, i.bytes)) = some (some (.agg #[(.int .i64 0), (.int .i64 0), (.int .u8 0), (.int .u8 0), (.int .u8 0), (.int .u8 0), (.int .u8 0), (.int .u8 0), (.int .u8 0), (.int .u8 0), (.int .u8 0), (.int .u8 0), (.int .u8 0), (.int .u8 0), (.int .u8 0), (.int .u8 0), (.int .u8 0), (.int .u8 0)]), 18, 32) := by kernel_rfl
theorem fold_set : ∀ (l : List Value) (k : Nat) (A : Array Value), A.size = k + l.length → (l.zipIdx k).foldl (fun cs p => cs.setIfInBounds (0 + p.2) p.1) A = (A.toList.take k ++ l).toArray
  | [], k, A, h => by
    have : A.toList.length = k := by simpa using h
    simp [List.take_of_length_le (Nat.le_of_eq this)]
  | c :: r, k, A, h => by
    rw [List.zipIdx_cons, List.foldl_cons, fold_set r (k + 1) _ (by simp only [Array.size_setIfInBounds, h, List.length_cons]; omega)]
    have hk : k < A.toList.length := by simp only [Array.length_toList, h, List.length_cons]; omega
    simp only [Nat.zero_add, Array.toList_setIfInBounds]
    rw [List.take_add_one, List.getElem?_set_self hk, List.take_set_of_le (Nat.le_refl _)]
    simp
theorem lit_run {o : Oper} {a : Act} {W : World} {x : Tmp} {cs : List Value} (ho : o.op = .buildSlice 26 1 #[(0, .tmp x)]) (hx : a.eval (.tmp x) = .agg cs.toArray) (hl : cs.length = 18) :
    (execOp a.eval o).run Try.prog W = .ok (.value (.slice (some ⟨W.heap.size, 0, none⟩) 1 1)) (W.alloc (.cells cs.toArray 44)) := by
  obtain ⟨i0, hi0, hz0, hsz0, _⟩ := info_parts info44
  have hu26 := Try.underlying26
  simp only [execOp, ho, hx, List.map_toArray, List.map_cons, List.map_nil]
  have hfill : ∀ Z : Array Value, Z.size = 18 → Instr.fill (fun i => some (i * 18, 18)) Z [(0, .agg cs.toArray)] = some cs.toArray := by
    intro Z hZ
    have hc : (Value.agg cs.toArray).cells = cs.toArray := by simp [Value.cells]
    simp only [Instr.fill, hc, List.size_toArray, hl, hZ]
    have := fold_set cs 0 Z (by omega)
    simp only [List.take_zero, List.nil_append] at this
    simpa [← Array.foldl_toList, hl] using this
  simp [Instr.buildSlice, run_underlying hu26, sizeOf, typeInfo, zeroValue, hi0, hsz0, hz0, newRow, hfill]
set_option maxHeartbeats 8000000 in
set_option maxRecDepth 100000 in
/-- slices.Insert: there is room, i < len(s): in place. -/
theorem shift (b n c i vb m vc : Nat) (cs vs : List Value) (w : World) (hi : i < n) (hm : 0 < m) (hroom : n + m ≤ c) (hc63 : c ≤ 9223372036854775807) (hvb : vb ≠ b)
    (hcl : cs.length = n * 18) (hvl : vs.length = m * 18) (hvc : m ≤ vc)
    (hcs : ∀ j v, cs[j]? = some v → w.cell? ⟨b, j, none⟩ = some v) (hsp : ∀ j, j < (n + m) * 18 → (w.cell? ⟨b, j, none⟩).isSome = true) (hfz : ∀ j, w.frozen? ⟨b, j, none⟩ = false)
    (hvs : ∀ j v, vs[j]? = some v → w.cell? ⟨vb, j, none⟩ = some v) (h1c : ∀ v ∈ cs, v.oneCell' = true) (h1v : ∀ v ∈ vs, v.oneCell' = true)
    (tA tB : TypeId) (kA kB : Nat) (hsa : w.shape? vb = some (tA, kA)) (hsb : w.shape? b = some (tB, kB)) (hkB : kB ≠ 0) (hfa : w.frozen? ⟨vb, 0, none⟩ = false) (hfe : w.frozen? ⟨vb, kA, none⟩ = false) :
    Calls Try.prog 57 #[.slice (some ⟨b, 0, none⟩) n c, .int .i64 i, .slice (some ⟨vb, 0, none⟩) m vc] w fun e w' =>
      e = .returned (.slice (some ⟨b, 0, none⟩) (n + m) c) ∧ ∃ w0 : World, (∀ k : Nat, w0.heap[k]? = w.heap[k]?) ∧ Below w.heap.size w w0 ∧ w0.heap.size = w.heap.size ∧ w' = (w0.setCells b ((i + m) * 18) (cs.drop (i * 18))).setCells b (i * 18) vs := by
  have hu26 := Try.underlying26
  have hu44 := Try.underlying44
  obtain ⟨i0, hi0, _, hsz0, _⟩ := info_parts info44
  have hsz : (Try.prog.info? 44).map (·.size) = some 18 := by rw [hi0]; simp [hsz0]
  have hz1 : ¬ ((m : Int) = 0) := by omega
  have hz2 : ¬ ((i : Int) = (n : Int)) := by omega
  have hz3 : ¬ ((c : Int) < (n : Int) + (m : Int)) := by omega
  have hz44 : ∀ w, (Go.sizeOf 44).run Try.prog w = .ok 18 w := fun w => by simp [sizeOf, typeInfo, hi0, hsz0]
  have hov : ∀ lb cb, (callFunc 67 #[.slice (some ⟨vb, 0, none⟩) m vc, .slice (some ⟨b, (i + m) * 18, none⟩) lb cb]).run Try.prog w = .ok (.value (.bool false)) w := fun lb cb => by
    rw [run_callFunc_extern Try.func67 (by kernel_rfl) (by kernel_rfl) (by kernel_rfl) (e := Extern.SlicesOverlaps.overlaps #[26, 26] #[4]) (by kernel_rfl),
      Lib.run_overlaps_apart w 26 4 44 hu26 18 hz44 ⟨vb, 0, none⟩ ⟨b, (i + m) * 18, none⟩ m vc lb cb hvb tA tB kA kB hsa hsb hkB hfa hfe]
    rfl
  have hdl : (cs.drop (i * 18)).length = (n - i) * 18 := by rw [List.length_drop, hcl]; omega
  have hw1 : IntKind.i64.wrap ((i : Int) + (m : Int)) = (i : Int) + (m : Int) := by rw [IntKind.wrap_i64]; omega
  have hw2 : IntKind.i64.wrap ((n : Int) + (m : Int)) = (n : Int) + (m : Int) := by rw [IntKind.wrap_i64]; omega
  have A1 := cut_from (P := Try.prog) 26 44 .i64 hu26 hi0 18 hsz0 (some ⟨b, 0, none⟩) n c (i : Int) (by omega) (by omega)
  have A2 := cut_ext (P := Try.prog) 26 44 .i64 hu26 hi0 (some ⟨b, 0, none⟩) n c ((n : Int) + (m : Int)) (by omega) (by omega)
  rw [show ((n : Int) + (m : Int)).toNat = n + m by omega] at A2
  have A3 := cut_from (P := Try.prog) 26 44 .i64 hu26 hi0 18 hsz0 (some ⟨b, 0, none⟩) (n + m) c ((i : Int) + (m : Int)) (by omega) (by omega)
  rw [show ((i : Int) + (m : Int)).toNat = i + m by omega, if_neg (show ¬ (c = i + m) by omega), Option.map_some, add_at, Nat.zero_add] at A3
  have A4 := cut_from (P := Try.prog) 26 44 .i64 hu26 hi0 18 hsz0 (some ⟨b, 0, none⟩) (n + m) c (i : Int) (by omega) (by omega)
  rw [show ((i : Int)).toNat = i by omega, if_neg (show ¬ (c = i) by omega), Option.map_some, add_at, Nat.zero_add] at A4
  have hcp1 : ∀ (W : World), (∀ x, W.cell? x = w.cell? x) → (∀ x, W.frozen? x = w.frozen? x) → ∀ ty, (Builtin.copy_ #[26, 26] ty #[.slice (some ⟨b, (i + m) * 18, none⟩) (n + m - (i + m)) (c - (i + m)), .slice (some ⟨b, i * 18, none⟩) (n + m - i) (c - i)]).run Try.prog W = .ok (goInt (Nat.min (n + m - i) (n + m - (i + m)))) (W.setCells b ((i + m) * 18) (cs.drop (i * 18))) := fun W hWc hWf ty =>
    run_copyN 18 W _ _ ty 44 b ((i + m) * 18) (n + m - (i + m)) _ ⟨b, i * 18, none⟩ (n + m - i) _ (cs.drop (i * 18)) hu26 hsz (by rw [hdl, show Nat.min (n + m - i) (n + m - (i + m)) = n - i by simp only [Nat.min_def]; split <;> omega])
      (fun j v hj => by rw [add_at, hWc]; exact hcs (i * 18 + j) v (by rwa [List.getElem?_drop] at hj))
      (fun j hj => by rw [hWc]; exact hsp _ (by omega)) (fun j hj => by rw [hWf]; exact hfz _) (fun v hv => h1c v (List.mem_of_mem_drop hv))
  have hcp2 : ∀ (W : World), (∀ x, W.cell? x = w.cell? x) → (∀ x, W.frozen? x = w.frozen? x) → ∀ ty, (Builtin.copy_ #[26, 26] ty #[.slice (some ⟨b, i * 18, none⟩) (n + m - i) (c - i), .slice (some ⟨vb, 0, none⟩) m vc]).run Try.prog (W.setCells b ((i + m) * 18) (cs.drop (i * 18))) = .ok (goInt (Nat.min m (n + m - i))) ((W.setCells b ((i + m) * 18) (cs.drop (i * 18))).setCells b (i * 18) vs) := fun W hWc hWf ty =>
    run_copyN 18 _ _ _ ty 44 b (i * 18) (n + m - i) _ ⟨vb, 0, none⟩ m vc vs hu26 hsz (by rw [hvl, show Nat.min m (n + m - i) = m by simp only [Nat.min_def]; split <;> omega])
      (fun j v hj => by rw [add_at, Nat.zero_add, World.cell?_setCells_out b _ _ _ _ (fun h _ => absurd h hvb), hWc]; exact hvs j v hj)
      (fun j hj => isSome_setCells b _ _ _ (fun t ht => by rw [hWc]; exact hsp _ (by omega)) _ (by rw [hWc]; exact hsp _ (by omega))) (fun j hj => by rw [World.frozen?_setCells, hWf]; exact hfz _) h1v
  have mixed : Try.prog.follows .mixedOrders = true := by kernel_rfl
  clear hdl hsz hz44
  go_enter Try.func57, Try.ntmps57
  go_wp2_with (simp only [hov])
  go_region_law_o (refine step_copy_runI rfl _ _ 26 26 rfl (.slice (some ⟨b, (i + m) * 18, none⟩) (n + m - (i + m)) (c - (i + m))) (.slice (some ⟨b, i * 18, none⟩) (n + m - i) (c - i)) (by simp [Act.eval, Act.put]) (by simp [Act.eval, Act.put]) (hcp1 w.drew (fun _ => rfl) (fun _ => rfl) 3) ?_)
  have hcp3 := hcp2 w.drew (fun _ => rfl) (fun _ => rfl) 3
  go_wp2_with (simp only [hcp3])
  go_ret
  exact ⟨rfl, w.drew, fun _ => rfl, below_drew1 (Below.refl _ _), rfl, rfl⟩
theorem info44s : ∃ i0, Try.prog.info? 44 = some i0 ∧ i0.zero = some z44v ∧ i0.size = 18 ∧ i0.bytes = 32 := by
  obtain ⟨i0, hi0, h1, h2, h3⟩ := info_parts info44
  exact ⟨i0, hi0, h1, h2, h3⟩
set_option maxHeartbeats 8000000 in
set_option maxRecDepth 100000 in
/-- slices.Insert: i < len(s), no room: a row of its own. -/
theorem grow (b n c i vb m vc : Nat) (cs vs : List Value) (w : World) (hi : i < n) (hm : 0 < m) (hnc : n ≤ c) (hroom : c < n + m) (hbig : (n + m) * 32 ≤ 140737488355328)
    (hcl : cs.length = n * 18) (hvl : vs.length = m * 18) (hvc : m ≤ vc)
    (hcs : ∀ j v, cs[j]? = some v → w.cell? ⟨b, j, none⟩ = some v)
    (hvs : ∀ j v, vs[j]? = some v → w.cell? ⟨vb, j, none⟩ = some v) (h1c : ∀ v ∈ cs, v.oneCell' = true) (h1v : ∀ v ∈ vs, v.oneCell' = true) :
    Calls Try.prog 57 #[.slice (some ⟨b, 0, none⟩) n c, .int .i64 i, .slice (some ⟨vb, 0, none⟩) m vc] w fun e w' =>
      ∃ (G : Nat) (ROW : Array Value) (w1 : World), e = .returned (.slice (some ⟨w.heap.size, 0, none⟩) (n + m) G) ∧ n + m ≤ G ∧ G ≤ maxLen ∧ ROW.size = G * 18 ∧ ROW.toList.take (i * 18) = cs.take (i * 18) ∧
        w1.heap[w.heap.size]? = some (.cells ROW 44 (0, 0)) ∧ w1.heap.size = w.heap.size + 1 ∧ Below w.heap.size w w1 ∧ w' = (w1.setCells w.heap.size (i * 18) vs).setCells w.heap.size ((i + m) * 18) (cs.drop (i * 18)) := by
  have hu26 := Try.underlying26
  have hu44 := Try.underlying44
  have hu3 := Try.underlying3
  obtain ⟨i0, hi0, hz0, hsz0, hby0⟩ := info44s
  have hsz : (Try.prog.info? 44).map (·.size) = some 18 := by rw [hi0]; simp [hsz0]
  have hz1 : ¬ ((m : Int) = 0) := by omega
  have hz2 : ¬ ((i : Int) = (n : Int)) := by omega
  have hz3 : (c : Int) < (n : Int) + (m : Int) := by omega
  have hbw : b < w.heap.size := block_lt_of_cell (hcs 0 _ (List.getElem?_eq_getElem (by omega)))
  have hvw : vb < w.heap.size := block_lt_of_cell (hvs 0 _ (List.getElem?_eq_getElem (by omega)))
  have hkk : (n : Int) + (m : Int) - (i : Int) = ((n + m - i : Nat) : Int) := by omega
  have hik : i + (n + m - i) = n + m := by omega
  have hold : (Builtin.firstCells i0.size i (.slice (some ⟨b, 0, none⟩) i c)).run Try.prog w.drew = .ok (cs.take (i * 18)).toArray w.drew := by
    rw [hsz0]
    exact run_firstCells_some w.drew 18 i ⟨b, 0, none⟩ i c (cs.take (i * 18)) (by rw [List.length_take]; omega) (fun j v hj => by
      rw [add_at, Nat.zero_add]
      rw [List.getElem?_take] at hj
      split at hj
      · exact hcs j v hj
      · cases hj)
  obtain ⟨G, hG⟩ : ∃ G, G = grownCap w (n + m) c 44 := ⟨_, rfl⟩
  obtain ⟨ROW, hROW⟩ : ∃ ROW : Array Value, ROW = (cs.take (i * 18)).toArray ++ Builtin.zeroCells z44v.cells (n + m - i) ++ Builtin.zeroCells z44v.cells (G - (n + m)) := ⟨_, rfl⟩
  have hrz : ∀ ty, (Builtin.append_ #[26, 3] ty #[.slice (some ⟨b, 0, none⟩) i c, .int .i64 ((n : Int) + (m : Int) - (i : Int))]).run Try.prog w =
      .ok (.slice (some ⟨w.heap.size, 0, none⟩) (n + m) G) (w.drew.alloc (.cells ROW 44)) := fun ty => by
    have h := Lib.run_append_grow_zeros w 26 3 ty 44 i0 z44v .i64 .i64 hu26 hu3 hi0 hz0 (some ⟨b, 0, none⟩) i c (cs.take (i * 18)) hold (n + m - i) (by omega) (by omega) (by omega) (by omega) (by rw [hby0]; omega) (by rw [hby0, hik]; exact growslice_fits hroom hbig)
    rw [hik, ← hG, ← hROW] at h
    rw [hkk]
    exact h
  have hGn : n + m ≤ G := by rw [hG]; exact grownCap_ge w _ _ _
  have hGm : G ≤ maxLen := by rw [hG]; exact grownCap_le_maxLen w (n + m) c 44 (by unfold maxLen; omega)
  have hG63 : G ≤ 9223372036854775807 := by have := hGm; unfold maxLen at this; omega
  have hzl : z44v.cells.size = 18 := by decide
  have hRl : ROW.size = G * 18 := by
    rw [hROW]
    simp only [Builtin.zeroCells, Array.size_append, Array.size_flatten, List.size_toArray, List.length_take, hcl]
    simp [hzl]
    omega
  have hRt : ROW.toList.take (i * 18) = cs.take (i * 18) := by
    rw [hROW]
    simp only [Array.toList_append, List.append_assoc]
    rw [List.take_append_of_le_length (by simp only [List.length_take]; omega)]
    first | (rw [List.take_take, Nat.min_self]; done) | (simp; done) | trace_state
  obtain ⟨W1, hW1⟩ : ∃ W1, W1 = w.drew.alloc (.cells ROW 44) := ⟨_, rfl⟩
  rw [← hW1] at hrz
  have hN : ∀ j, j < (n + m) * 18 → (W1.cell? ⟨w.heap.size, j, none⟩).isSome = true := fun j hj => by
    rw [hW1, World.cell?_alloc_at (w := w.drew) ROW _ w.heap.size j rfl, Array.getElem?_eq_getElem (by omega)]; rfl
  have hNf : ∀ j, W1.frozen? ⟨w.heap.size, j, none⟩ = false := fun j => by rw [hW1]; exact World.frozen?_alloc_at (w := w.drew) ROW _ w.heap.size j rfl
  have hOb : ∀ j v, w.cell? ⟨b, j, none⟩ = some v → W1.cell? ⟨b, j, none⟩ = some v := fun j v h => by rw [hW1, World.cell?_alloc_past (w := w.drew) _ b j hbw]; exact h
  have hOv : ∀ j v, w.cell? ⟨vb, j, none⟩ = some v → W1.cell? ⟨vb, j, none⟩ = some v := fun j v h => by rw [hW1, World.cell?_alloc_past (w := w.drew) _ vb j hvw]; exact h
  have hbN : b ≠ w.heap.size := by omega
  have hdl : (cs.drop (i * 18)).length = (n - i) * 18 := by rw [List.length_drop, hcl]; omega
  have hcpA : ∀ (W : World), (∀ x, W.cell? x = W1.cell? x) → (∀ x, W.frozen? x = W1.frozen? x) → ∀ ty, (Builtin.copy_ #[26, 26] ty #[.slice (some ⟨w.heap.size, i * 18, none⟩) (n + m - i) (G - i), .slice (some ⟨vb, 0, none⟩) m vc]).run Try.prog W = .ok (goInt (Nat.min m (n + m - i))) (W.setCells w.heap.size (i * 18) vs) := fun W hWc hWf ty =>
    run_copyN 18 W _ _ ty 44 w.heap.size (i * 18) (n + m - i) _ ⟨vb, 0, none⟩ m vc vs hu26 hsz (by rw [hvl, show Nat.min m (n + m - i) = m by simp only [Nat.min_def]; split <;> omega])
      (fun j v hj => by rw [add_at, Nat.zero_add, hWc]; exact hOv _ v (hvs j v hj))
      (fun j hj => by rw [hWc]; exact hN _ (by omega)) (fun j hj => by rw [hWf]; exact hNf _) h1v
  have hcpB : ∀ (W : World), (∀ x, W.cell? x = W1.cell? x) → (∀ x, W.frozen? x = W1.frozen? x) → ∀ W', (∀ x, W'.cell? x = (W.setCells w.heap.size (i * 18) vs).cell? x) → (∀ x, W'.frozen? x = (W.setCells w.heap.size (i * 18) vs).frozen? x) → ∀ ty, (Builtin.copy_ #[26, 26] ty #[.slice (some ⟨w.heap.size, (i + m) * 18, none⟩) (n + m - (i + m)) (G - (i + m)), .slice (some ⟨b, i * 18, none⟩) (n - i) (c - i)]).run Try.prog W' = .ok (goInt (Nat.min (n - i) (n + m - (i + m)))) (W'.setCells w.heap.size ((i + m) * 18) (cs.drop (i * 18))) := fun W hWc hWf W' hWc' hWf' ty =>
    run_copyN 18 W' _ _ ty 44 w.heap.size ((i + m) * 18) (n + m - (i + m)) _ ⟨b, i * 18, none⟩ (n - i) _ (cs.drop (i * 18)) hu26 hsz (by rw [hdl, show Nat.min (n - i) (n + m - (i + m)) = n - i by simp only [Nat.min_def]; split <;> omega])
      (fun j v hj => by
        rw [add_at, hWc', World.cell?_setCells_out _ _ _ _ _ (fun h _ => absurd h hbN), hWc]
        exact hOb _ v (hcs (i * 18 + j) v (by rwa [List.getElem?_drop] at hj)))
      (fun j hj => by rw [hWc']; exact isSome_setCells _ _ _ _ (fun t ht => by rw [hWc]; exact hN _ (by omega)) _ (by rw [hWc]; exact hN _ (by omega)))
      (fun j hj => by rw [hWf', World.frozen?_setCells, hWf]; exact hNf _) (fun v hv => h1c v (List.mem_of_mem_drop hv))
  have hw1 : IntKind.i64.wrap ((i : Int) + (m : Int)) = (i : Int) + (m : Int) := by rw [IntKind.wrap_i64]; omega
  have hw2 : IntKind.i64.wrap ((n : Int) + (m : Int)) = (n : Int) + (m : Int) := by rw [IntKind.wrap_i64]; omega
  have hw3 : IntKind.i64.wrap ((n : Int) + (m : Int) - (i : Int)) = (n : Int) + (m : Int) - (i : Int) := by rw [IntKind.wrap_i64]; omega
  have A1 := cut_from (P := Try.prog) 26 44 .i64 hu26 hi0 18 hsz0 (some ⟨b, 0, none⟩) n c (i : Int) (by omega) (by omega)
  rw [show ((i : Int)).toNat = i by omega, if_neg (show ¬ (c = i) by omega), Option.map_some, add_at, Nat.zero_add] at A1
  have A2 := cut_ext (P := Try.prog) 26 44 .i64 hu26 hi0 (some ⟨b, 0, none⟩) n c (i : Int) (by omega) (by omega)
  rw [show ((i : Int)).toNat = i by omega] at A2
  have A3 := cut_from (P := Try.prog) 26 44 .i64 hu26 hi0 18 hsz0 (some ⟨w.heap.size, 0, none⟩) (n + m) G ((i : Int) + (m : Int)) (by omega) (by omega)
  rw [show ((i : Int) + (m : Int)).toNat = i + m by omega, if_neg (show ¬ (G = i + m) by omega), Option.map_some, add_at, Nat.zero_add] at A3
  have A4 := cut_from (P := Try.prog) 26 44 .i64 hu26 hi0 18 hsz0 (some ⟨w.heap.size, 0, none⟩) (n + m) G (i : Int) (by omega) (by omega)
  rw [show ((i : Int)).toNat = i by omega, if_neg (show ¬ (G = i) by omega), Option.map_some, add_at, Nat.zero_add] at A4
  have mixed : Try.prog.follows .mixedOrders = true := by kernel_rfl
  have hcA := hcpA W1 (fun _ => rfl) (fun _ => rfl) 3
  have hcB := hcpB W1 (fun _ => rfl) (fun _ => rfl) (W1.setCells w.heap.size (i * 18) vs).drew (fun _ => rfl) (fun _ => rfl) 3
  have hBel : Below w.heap.size w W1 := by rw [hW1]; exact below_alloc (below_drew1 (Below.refl _ _)) _
  have hrow1 : W1.heap[w.heap.size]? = some (.cells ROW 44 (0, 0)) := by rw [hW1]; exact Array.getElem?_push_size
  have hs1 : W1.heap.size = w.heap.size + 1 := by rw [hW1]; exact Array.size_push _
  have HR := Aside0.mk (show ROW.size = G * 18 ∧ ROW.toList.take (i * 18) = cs.take (i * 18) ∧ Below w.heap.size w W1 ∧ W1.heap[w.heap.size]? = some (.cells ROW 44 (0, 0)) ∧ W1.heap.size = w.heap.size + 1 from ⟨hRl, hRt, hBel, hrow1, hs1⟩)
  clear hkk hik hold hROW hG hW1 hRl hRt hN hNf hOb hOv hcpA hcpB hzl hBel hrow1 hs1
  go_enter Try.func57, Try.ntmps57
  go_wp2_with (first | (at_builtin; refine Lib.wpList_append_run _ rfl _ _ _ _ rfl _ _ rfl rfl _ _ (hrz _) ?_) | simp only [hcA])
  go_region_law_o (refine step_copy_runI rfl _ _ 26 26 rfl (.slice (some ⟨w.heap.size, (i + m) * 18, none⟩) (n + m - (i + m)) (G - (i + m))) (.slice (some ⟨b, i * 18, none⟩) (n - i) (c - i)) (by simp [Act.eval, Act.put]) (by simp [Act.eval, Act.put]) hcB ?_)
  go_wp2
  go_ret
  exact ⟨G, ROW, W1.drew, rfl, hGn, hGm, HR.out.1, HR.out.2.1, HR.out.2.2.2.1, HR.out.2.2.2.2, below_drew1 HR.out.2.2.1, by rw [drew_setCells]⟩
/-- There is room, and the place is one of the list's. -/
def Room {α : Type} (xs : List α) (i : Int) : Prop := xs.length < 4398046511104 ∧ 0 ≤ i ∧ i ≤ xs.length
instance {α : Type} (xs : List α) (i : Int) : Decidable (Room xs i) := by unfold Room; infer_instance
/-- The list with an element put in. -/
def put {α : Type} (xs : List α) (i : Int) (p : α) : List α := xs.take i.toNat ++ ([p] ++ xs.drop i.toNat)
theorem put_len {α : Type} (xs : List α) (i : Int) (p : α) (h : i ≤ xs.length) : (put xs i p).length = xs.length + 1 := by
  simp only [put, List.length_append, List.length_take, List.length_drop, List.length_singleton]; omega
theorem laid {n i : Nat} {cur cur1 cur2 inner cs : List Value} (hi : i < n) (hin : inner.length = n * 18) (hcs : cs.length = 18) (h1 : cur1 = cur.take ((i + 1) * 18) ++ inner.drop (i * 18) ++ cur.drop ((i + 1) * 18 + (inner.drop (i * 18)).length))
    (h2 : cur2 = cur1.take (i * 18) ++ cs ++ cur1.drop (i * 18 + cs.length)) (hl : (n + 1) * 18 ≤ cur.length) (ht : cur.take (i * 18) = inner.take (i * 18)) : cur2.take ((n + 1) * 18) = inner.take (i * 18) ++ (cs ++ inner.drop (i * 18)) := by
  have e1 : cur1.take (i * 18) = inner.take (i * 18) := by
    rw [h1, List.append_assoc, List.take_append_of_le_length (by simp only [List.length_take]; omega), List.take_take, Nat.min_eq_left (by omega), ht]
  have e2 : cur1.drop (i * 18 + cs.length) = inner.drop (i * 18) ++ cur.drop ((i + 1) * 18 + (inner.drop (i * 18)).length) := by
    rw [h1, List.append_assoc, hcs, show i * 18 + 18 = (cur.take ((i + 1) * 18)).length by simp only [List.length_take]; omega, List.drop_left]
  rw [h2, e1, e2]
  have e3 : inner.take (i * 18) ++ cs ++ (inner.drop (i * 18) ++ cur.drop ((i + 1) * 18 + (inner.drop (i * 18)).length)) = (inner.take (i * 18) ++ (cs ++ inner.drop (i * 18))) ++ cur.drop ((i + 1) * 18 + (inner.drop (i * 18)).length) := by simp only [List.append_assoc]
  rw [e3]
  exact List.take_left' (by simp only [List.length_append, List.length_take, List.length_drop]; omega)
theorem laidG {n i : Nat} {cur cur1 cur2 inner cs : List Value} (hi : i < n) (hin : inner.length = n * 18) (hcs : cs.length = 18) (h1 : cur1 = cur.take (i * 18) ++ cs ++ cur.drop (i * 18 + cs.length))
    (h2 : cur2 = cur1.take ((i + 1) * 18) ++ inner.drop (i * 18) ++ cur1.drop ((i + 1) * 18 + (inner.drop (i * 18)).length)) (hl : (n + 1) * 18 ≤ cur.length) (ht : cur.take (i * 18) = inner.take (i * 18)) : cur2.take ((n + 1) * 18) = inner.take (i * 18) ++ (cs ++ inner.drop (i * 18)) := by
  have e1 : cur1.take ((i + 1) * 18) = inner.take (i * 18) ++ cs := by
    rw [h1, ht]
    exact List.take_left' (by simp only [List.length_append, List.length_take]; omega)
  rw [h2, e1]
  have e3 : inner.take (i * 18) ++ cs ++ inner.drop (i * 18) ++ cur1.drop ((i + 1) * 18 + (inner.drop (i * 18)).length) = (inner.take (i * 18) ++ (cs ++ inner.drop (i * 18))) ++ cur1.drop ((i + 1) * 18 + (inner.drop (i * 18)).length) := by simp only [List.append_assoc]
  rw [e3]
  exact List.take_left' (by simp only [List.length_append, List.length_take, List.length_drop]; omega)
theorem one_of {α : Type} {R : α → List Value → Prop} {xs : List α} {inner : List Value} (h : Reps R 18 xs inner) (hone : ∀ x cs, R x cs → ∀ u ∈ cs, u.oneCell' = true) : ∀ u ∈ inner, u.oneCell' = true := by
  intro u hu
  obtain ⟨q, hq, rfl⟩ := List.mem_iff_getElem.1 hu
  have hql : q / 18 < xs.length := by have := h.1; omega
  refine hone _ _ (h.2 (q / 18) _ (List.getElem?_eq_getElem hql)) _ ?_
  rw [List.mem_iff_getElem?]
  refine ⟨q % 18, ?_⟩
  rw [List.getElem?_take, if_pos (Nat.mod_lt _ (by omega)), List.getElem?_drop, show q / 18 * 18 + q % 18 = q by omega, List.getElem?_eq_getElem hq]
set_option maxHeartbeats 8000000 in
set_option maxRecDepth 100000 in
/-- slices.Insert of one element into a row of one's own. -/
theorem ev {α : Type} (d : Kd α) (hd : d.sz = 18) {W : World} {base : Nat} {ok okp : Nat → Prop} {v : Value} {xs : List α} {p : α} {cs : List Value} {i : Int} (h0 : 0 ≤ i) (h1 : i ≤ xs.length) (hp : d.M W base okp p cs) (hokp : ∀ k, okp k → ok k ∧ some k ≠ v.ownBlock)
    (hfresh : ∀ k, W.heap.size ≤ k → ok k) (HO : d.R 44 W base ok v xs) (hbase : base ≤ W.heap.size) (hl : (xs.length + 1) * 32 ≤ 140737488355328) :
    Calls Try.prog 57 #[v, .int .i64 i, .slice (some ⟨W.heap.size, 0, none⟩) 1 1] (W.alloc (.cells cs.toArray 44)) fun e w1 =>
      ∃ v1, e = .returned v1 ∧ d.R 44 w1 base ok v1 (put xs i p) ∧ W.grownBy w1 v.ownBlock ∧ (v1.ownBlock = v.ownBlock ∨ ∃ b, v1.ownBlock = some b ∧ W.heap.size ≤ b) := by
  have hcsl : cs.length = 18 := by rw [← hd]; exact d.K_len (d.K_of_M hp)
  have hcs1 := d.K_one (d.K_of_M hp)
  obtain ⟨j, rfl⟩ := Int.eq_ofNat_of_zero_le h0
  have hWs : (W.alloc (.cells cs.toArray 44)).heap.size = W.heap.size + 1 := Array.size_push _
  have hWv : (W.alloc (.cells cs.toArray 44)).heap[W.heap.size]? = some (.cells cs.toArray 44 (0, 0)) := Array.getElem?_push_size
  have hWo : ∀ k, k < W.heap.size → (W.alloc (.cells cs.toArray 44)).heap[k]? = W.heap[k]? := fun k hk => (below_alloc (Below.refl W.heap.size W) _).block k hk
  have hvs : ∀ q u, cs[q]? = some u → (W.alloc (.cells cs.toArray 44)).cell? ⟨W.heap.size, q, none⟩ = some u := fun q u hq => by rw [blk_cell hWv]; simpa using hq
  rcases Nat.lt_or_ge j xs.length with hj | hj
  · obtain ⟨hok, inner, hown, hr⟩ := HO
    rw [hd] at hown hr
    have hin : inner.length = xs.length * 18 := hr.1
    have hone := one_of hr (fun x c hx => d.K_one (d.K_of_M hx))
    rcases hown.2 with ⟨rfl, hn⟩ | ⟨g, c, cur, rfl, hb, hh, hnc, hcm, hcz, htake⟩
    · exact absurd hj (by rw [hn]; omega)
    have hg : g < W.heap.size := (blk_lt hh)
    have hcm' : c ≤ 9223372036854775807 := by unfold maxLen at hcm; exact hcm
    have hhW := (hWo g hg).trans hh
    have hicell : ∀ q u, inner[q]? = some u → (W.alloc (.cells cs.toArray 44)).cell? ⟨g, q, none⟩ = some u := fun q u hq => by
      rw [blk_cell hhW, ← Array.getElem?_toList]
      rw [← htake, List.getElem?_take] at hq
      split at hq
      · exact hq
      · cases hq
    have htk : cur.toList.take (j * 18) = inner.take (j * 18) := by rw [← htake, List.take_take, Nat.min_eq_left (by omega)]
    rcases Nat.lt_or_ge c (xs.length + 1) with hc | hc
    · refine (grow g xs.length c j W.heap.size 1 1 inner cs (W.alloc (.cells cs.toArray 44)) hj (by omega) hnc (by omega) hl hin (by omega) (by omega) hicell hvs hone hcs1).mono ?_
      rintro e w' ⟨G, ROW, w1, rfl, hG1, hG2, hG3, hG4, hrow, hs1, hbl, rfl⟩
      rw [hWs] at hrow hs1 hbl ⊢
      obtain ⟨cur1, r1, r2, r3⟩ := setCells_row cs (j * 18) w1 ROW hrow (by omega)
      obtain ⟨cur2, r4, r5, r6⟩ := setCells_row (inner.drop (j * 18)) ((j + 1) * 18) (w1.setCells (W.heap.size + 1) (j * 18) cs) cur1 r1 (by rw [List.length_drop]; omega)
      obtain ⟨s1, s2, s3, s4⟩ := setCells_same (W.heap.size + 1) cs (j * 18) w1
      obtain ⟨u1, u2, u3, u4⟩ := setCells_same (W.heap.size + 1) (inner.drop (j * 18)) ((j + 1) * 18) (w1.setCells (W.heap.size + 1) (j * 18) cs)
      have hfar : ∀ k, k < W.heap.size → ((w1.setCells (W.heap.size + 1) (j * 18) cs).setCells (W.heap.size + 1) ((j + 1) * 18) (inner.drop (j * 18))).heap[k]? = W.heap[k]? := fun k hk => by
        rw [setCells_far _ _ k (by omega), setCells_far _ _ k (by omega), hbl.block k (by omega), hWo k hk]
      have ht := laidG (n := xs.length) (cur := ROW.toList) hj hin hcsl r3 r6 (by simp; omega) (by rw [hG4])
      have hmv : ∀ x q okq, (∀ k, okq k → ok k) → d.M W base okq x q → d.M ((w1.setCells (W.heap.size + 1) (j * 18) cs).setCells (W.heap.size + 1) ((j + 1) * 18) (inner.drop (j * 18))) base (fun k => ok k ∧ some k ≠ (Value.slice (some ⟨W.heap.size + 1, 0, none⟩) (xs.length + 1) G).ownBlock) x q := fun x q okq hq hx =>
        d.M_mono (fun k hk => ⟨hq k hk.1, by have := hk.2.2.1; simp [Value.ownBlock]; omega⟩) (d.M_move (fun k hk => hfar k hk.2.2.1) (d.M_bound hx))
      refine ⟨_, rfl, ⟨fun k hk => ?_, inner.take (j * 18) ++ (cs ++ inner.drop (j * 18)), ⟨?_, .inr ⟨W.heap.size + 1, G, cur2, by rw [put_len _ _ _ h1], by omega, r4, by rw [put_len _ _ _ h1]; exact hG1, hG2, by rw [hd, r5, r2, hG3], ?_⟩⟩, ?_⟩, ⟨?_, ?_, ?_, ?_, fun k hk _ => hfar k hk⟩, .inr ⟨_, rfl, Nat.le_succ _⟩⟩
      · have : W.heap.size + 1 = k := by simpa [Value.ownBlock] using hk
        exact hfresh k (by omega)
      · rw [put_len _ _ _ h1, hd]; simp only [List.length_append, List.length_take, List.length_drop]; omega
      · rw [put_len _ _ _ h1, hd]; exact ht
      · rw [hd]
        refine Kd.reps_append ((Kd.reps_take hr (by omega)).imp_ (fun x q hx => hmv x q _ (fun k hk => hk.1) hx)) (Kd.reps_append (ps := [p]) ⟨by simp [hcsl], fun q x hx => ?_⟩ ((Kd.reps_drop hr).imp_ (fun x q hx => hmv x q _ (fun k hk => hk.1) hx)))
        cases q with
        | zero => obtain rfl : p = x := by simpa using hx
                  rw [Nat.zero_mul, List.drop_zero, List.take_of_length_le (by omega)]
                  exact hmv _ _ _ (fun k hk => (hokp k hk).1) hp
        | succ q => simp at hx
      · rw [u1, s1]; exact hbl.os
      · rw [u2, s2]; exact hbl.tape
      · rw [u3, s3]; exact hbl.output
      · rw [u4, s4]; omega
    · refine (shift g xs.length c j W.heap.size 1 1 inner cs (W.alloc (.cells cs.toArray 44)) hj (by omega) hc hcm' (by omega) hin (by omega) (by omega) hicell (fun q hq => by rw [blk_cell hhW, Array.getElem?_eq_getElem (by omega)]; rfl) (fun q => blk_frozen hhW q) hvs hone hcs1 44 44 18 (c * 18) (by unfold World.shape?; rw [hWv]; simp [hcsl]) (by unfold World.shape?; rw [hhW]; simp [hcz]) (by omega) (blk_frozen hWv _) (blk_frozen hWv _)).mono ?_
      rintro e w' ⟨rfl, w1, hheap, hbl, hs1, rfl⟩
      obtain ⟨cur1, r1, r2, r3⟩ := setCells_row (inner.drop (j * 18)) ((j + 1) * 18) w1 cur ((hheap g).trans hhW) (by rw [List.length_drop]; omega)
      obtain ⟨cur2, r4, r5, r6⟩ := setCells_row cs (j * 18) (w1.setCells g ((j + 1) * 18) (inner.drop (j * 18))) cur1 r1 (by omega)
      obtain ⟨s1, s2, s3, s4⟩ := setCells_same g (inner.drop (j * 18)) ((j + 1) * 18) w1
      obtain ⟨u1, u2, u3, u4⟩ := setCells_same g cs (j * 18) (w1.setCells g ((j + 1) * 18) (inner.drop (j * 18)))
      have hfar : ∀ k, k < W.heap.size → k ≠ g → ((w1.setCells g ((j + 1) * 18) (inner.drop (j * 18))).setCells g (j * 18) cs).heap[k]? = W.heap[k]? := fun k hk hkg => by
        rw [setCells_far _ _ k hkg, setCells_far _ _ k hkg, hheap k, hWo k hk]
      have ht := laid (n := xs.length) (cur := cur.toList) hj hin hcsl r3 r6 (by simp; omega) htk
      have hmv : ∀ x q okq, (∀ k, okq k → ok k ∧ some k ≠ some g) → d.M W base okq x q → d.M ((w1.setCells g ((j + 1) * 18) (inner.drop (j * 18))).setCells g (j * 18) cs) base (fun k => ok k ∧ some k ≠ (Value.slice (some ⟨g, 0, none⟩) (xs.length + 1) c).ownBlock) x q := fun x q okq hq hx =>
        d.M_mono (fun k hk => hq k hk.1) (d.M_move (fun k hk => hfar k hk.2.2.1 (fun e => (hq k hk.1).2 (by rw [e]))) (d.M_bound hx))
      refine ⟨_, rfl, ⟨fun k hk => hok k hk, inner.take (j * 18) ++ (cs ++ inner.drop (j * 18)), ⟨?_, .inr ⟨g, c, cur2, by rw [put_len _ _ _ h1], hb, r4, by rw [put_len _ _ _ h1]; exact hc, hcm, by rw [hd, r5, r2, hcz], ?_⟩⟩, ?_⟩, ⟨?_, ?_, ?_, ?_, fun k hk hkg => hfar k hk (fun e => hkg (by rw [e]; rfl))⟩, .inl rfl⟩
      · rw [put_len _ _ _ h1, hd]; simp only [List.length_append, List.length_take, List.length_drop]; omega
      · rw [put_len _ _ _ h1, hd]; exact ht
      · rw [hd]
        refine Kd.reps_append ((Kd.reps_take hr (by omega)).imp_ (fun x q hx => hmv x q _ (fun k hk => hk) hx)) (Kd.reps_append (ps := [p]) ⟨by simp [hcsl], fun q x hx => ?_⟩ ((Kd.reps_drop hr).imp_ (fun x q hx => hmv x q _ (fun k hk => hk) hx)))
        cases q with
        | zero => obtain rfl : p = x := by simpa using hx
                  rw [Nat.zero_mul, List.drop_zero, List.take_of_length_le (by omega)]
                  exact hmv _ _ _ hokp hp
        | succ q => simp at hx
      · rw [u1, s1]; exact hbl.os
      · rw [u2, s2]; exact hbl.tape
      · rw [u3, s3]; exact hbl.output
      · rw [u4, s4, hs1, hWs]; omega
  · obtain rfl : j = xs.length := by omega
    have hu26 := Try.underlying26
    have hu44 := Try.underlying44
    obtain ⟨i0, hi0, hz0, hsz0, hby0⟩ := info44s
    obtain ⟨A, c, rfl⟩ := Kd.R_slice HO
    have HO' := Aside0.mk (Kd.R_alloc HO (.cells cs.toArray 44))
    have hM : d.M (W.alloc (.cells cs.toArray 44)) base (fun k => okp k ∧ base ≤ k ∧ k < W.heap.size ∧ ∃ q, q ∈ d.E ∧ ∃ cells, W.heap[k]? = some (.cells cells q (0, 0))) p cs := d.M_move (fun k hk => hWo k hk.2.2.1) (d.M_bound hp)
    have HX := Aside0.mk (show ReadsRow (d.M (W.alloc (.cells cs.toArray 44)) base (fun k => okp k ∧ base ≤ k ∧ k < W.heap.size ∧ ∃ q, q ∈ d.E ∧ ∃ cells, W.heap[k]? = some (.cells cells q (0, 0)))) d.sz (W.alloc (.cells cs.toArray 44)) (some ⟨W.heap.size, 0, none⟩) 1 [p] from
      ⟨rfl, by decide, fun _ => ⟨_, rfl, fun q x hq => by
        cases q with
        | succ q => simp at hq
        | zero =>
          obtain rfl : p = x := by simpa using hq
          exact ⟨cs, by rw [hcsl, hd], hM, fun t u ht => by rw [Nat.zero_mul, Nat.zero_add, add_at, Nat.zero_add]; exact hvs t u ht⟩⟩⟩)
    have A1 := cut_from (P := Try.prog) 26 44 .i64 hu26 hi0 18 hsz0 A xs.length c (xs.length : Int) (by omega) (by omega)
    obtain ⟨R1, hR1⟩ : ∃ R1, (if c = ((xs.length : Int)).toNat then A else A.map (·.add (((xs.length : Int)).toNat * 18))) = R1 := ⟨_, rfl⟩
    rw [hR1] at A1
    clear hR1
    have HF := Aside0.mk (show ∀ k, (W.alloc (.cells cs.toArray 44)).heap.size ≤ k → ok k from fun k hk => hfresh k (by omega))
    have HL := Aside0.mk hl
    have HBS := Aside0.mk (show base ≤ (W.alloc (.cells cs.toArray 44)).heap.size by omega)
    have HOK := Aside0.mk hokp
    have HI := Aside0.mk (show (Try.prog.info? 44).map (fun i => (i.zero, i.size, i.bytes)) = some (some z44v, d.sz, 32) by rw [hd]; exact info44)
    have HZ := Aside0.mk (show z44v.cells.size = d.sz by rw [hd]; decide)
    have HP := Aside0.mk (show 0 < d.sz by omega)
    clear hvs hWv hM hfresh hl hokp hp hcs1 HO hi0 hz0 hsz0 hby0 h0 h1 hj
    go_enter Try.func57, Try.ntmps57
    go_wp2_with (at_builtin; (refine Kd.R_append_rows d (w0 := W.alloc (.cells cs.toArray 44)) base rfl _ _ 26 44 z44v 32 rfl hu26 HI.out HZ.out HP.out (by decide) _ xs [p] _ 1 1 ok _ rfl rfl HO'.out HX.out (fun _ _ h => h) (fun k hk => HOK.out k hk.1) HF.out (Below.refl _ _) HBS.out HL.out ?_); intro v1 w1 ho hb hg hat)
    go_ret
    refine ⟨v1, rfl, ?_, ⟨hg.os, hg.tape, hg.output, (by have := hg.size; omega), fun k hk hne => (hg.block k (by omega) hne).trans (hWo k hk)⟩, ?_⟩
    · rw [show put xs (xs.length : Int) p = xs ++ [p] by unfold put; rw [Int.toNat_natCast, List.take_length, List.drop_length, List.append_nil]]
      exact ho
    · rcases hat with h | ⟨b, h, hb⟩
      · exact .inl h
      · exact .inr ⟨b, h, by omega⟩
end Go.Proofs.Ytbgdmbjipladoaa.Ins
