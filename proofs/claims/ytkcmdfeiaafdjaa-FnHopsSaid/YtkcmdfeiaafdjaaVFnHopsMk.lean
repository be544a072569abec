/- A map of ints that is used as a set, told by a list of its members; in the words that a printed walk uses for a row of the call's own. No condition. -/
import Derived.Test.YtkcmdfeiaafdjaaVFnHopsSets
import Derived.Test.YtkcmdfeiaafdjaaVFnHopsWWords
import Derived.Test.YtkcmdfeiaafdjaaVFnHopsWLast
import Derived.Test.YtkcmdfeiaafdjaaVFnHopsWMore
set_option linter.unusedVariables false
set_option linter.unusedSimpArgs false
namespace Go.Proofs.Ytkcmdfeiaafdjaa.Mk
open Go.RowKit Go.Proofs.YtkcmdfeiaafdjaaW.PrintWords Go.Proofs.YtkcmdfeiaafdjaaW.PrintLast Go.Proofs.YtkcmdfeiaafdjaaW.PrintMore Go.Proofs.Ytkcmdfeiaafdjaa.Sets
/-- v is a map whose members are those of l. -/
def R {α : Type} (enc : α → Value) (e : Nat) (w : World) (base : Nat) (ok : Nat → Prop) (v : Value) (l : List α) : Prop :=
  ∃ b xs, v = .map (some b) ∧ IsSet enc w b xs ∧ base ≤ b ∧ ∀ x, x ∈ xs ↔ x ∈ l
/-- Of what lay in W one map alone has turned. -/
def Only {α : Type} (enc : α → Value) (W w' : World) : Prop := ∃ (b : Nat) (xs : List α), IsSet enc W b xs ∧ ∀ j, j ≠ b → w'.heap[j]? = W.heap[j]?
section
variable {α : Type} {enc : α → Value} {e : Nat} {w w1 : World} {base : Nat} {ok ok' : Nat → Prop} {v : Value} {l : List α}
theorem R_map (h : R enc e w base ok v l) : ∃ b, v = .map (some b) := ⟨h.choose, h.choose_spec.choose_spec.1⟩
theorem R_to (h : R enc e w base ok v l) (hk : ∀ (b : Nat) (xs : List α), IsSet enc w b xs → IsSet enc w1 b xs) : R enc e w1 base ok' v l := by
  obtain ⟨b, xs, h1, h2, h3, h4⟩ := h
  exact ⟨b, xs, h1, hk b xs h2, h3, h4⟩
theorem R_below (h : R enc e w base ok v l) (hb : Below w.heap.size w w1) : R enc e w1 base ok v l := R_to h fun _ _ q => q.below hb
theorem R_alloc (h : R enc e w base ok v l) (o : Obj) : R enc e (w.alloc o) base ok v l := R_to h fun _ _ q => q.alloc o
theorem R_drew (h : R enc e w base ok v l) : R enc e w.drew base ok v l := R_to h fun _ _ q => q.drew
theorem R_drewN (h : R enc e w base ok v l) (n : Nat) : R enc e (w.drewN n) base ok v l := R_to h fun _ _ q => q.drewN n
theorem R_cell (h : R enc e w base ok v l) (p : Addr) (u : Value) : R enc e (w.setCell p u) base ok v l := R_to h fun _ _ q => q.setCell p u
theorem R_far (h : R enc e w base ok v l) {p : Addr} (hok : ∀ k, ok k → k ≠ p.block) (u : Value) : R enc e (w.setCell p u) base ok v l := R_cell h p u
theorem R_types (h : R enc e w base ok v l) {g t : Nat} {cells : Array Value} (hb : w.heap[g]? = some (.cells cells t (0, 0))) (ht : ∀ q, q ∈ e :: [] → q ≠ t) : R enc e w base (fun k => ok k ∧ k ≠ g) v l := R_to h fun _ _ q => q
theorem R_elderB (h : R enc e w base ok v l) (a : Nat) (ha : w.heap.size ≤ a) : R enc e w base ok v l := R_to h fun _ _ q => q
theorem R_any (h : R enc e w base ok v l) : R enc e w base (fun _ => True) v l := R_to h fun _ _ q => q
theorem R_mono (h : R enc e w base ok v l) (hok : ∀ k, ok k → ok' k) : R enc e w base ok' v l := R_to h fun _ _ q => q
theorem R_lower {base' : Nat} (h : R enc e w base ok v l) (hb : base' ≤ base) : R enc e w base' ok v l := by
  obtain ⟨b, xs, h1, h2, h3, h4⟩ := h
  exact ⟨b, xs, h1, h2, by omega, h4⟩
theorem now (h : R enc e w base ok v l := by (with_reducible repeat (first | apply Mk.R_alloc | apply Mk.R_drewN | apply Mk.R_drew | apply Mk.R_cell)); exact Aside0.out (by assumption)) : R enc e w base ok v l := h
theorem blk_grown {g : Nat} {o : Obj} (h : w.heap[g]? = some o) (hg : Only enc w w1) (ho : ∀ es n, o ≠ .map es n := by intros; simp) : w1.heap[g]? = some o := by
  obtain ⟨b, xs, ⟨es, sq, hs, hm, hv⟩, hj⟩ := hg
  rw [hj g (fun e => by subst e; rw [hs] at h; exact ho _ _ (Option.some.inj h).symm)]
  exact h
end
section
variable {P : Program} {T K E : TypeId} {ops : Array Oper} {rest : List Oper} {o : Oper} {a : Act} {Q : Exit → Act → World → Prop} {W : World}
theorem gate_map {m : Tmp} {T : TypeId} {k v : Operand} (ho : o.op = .mapUpdate T (.tmp m) k v) (h : wpList P ops Q (o :: rest) a W) : wpList P ops Q (o :: rest) a W := h
theorem new_event {α : Type} [DecidableEq α] (enc : α → Value) (e : Nat) (hg : o.guard = none) (ho : o.op = .makeMap T none) (h : ∀ v w', R enc e w' W.heap.size (fun _ => True) v [] → Below W.heap.size W w' → wpList P ops Q rest (a.put o.dst v) w') : wpList P ops Q (o :: rest) a W :=
  wpList_new enc hg ho (Below.refl _ _) (Nat.le_refl _) fun b w' e hs hb _ => h _ w' ⟨b, [], rfl, hs, by omega, fun _ => Iff.rfl⟩ hb
theorem put_event {α : Type} [DecidableEq α] {enc : α → Value} {e base : Nat} {ok : Nat → Prop} {v' : Value} {l : List α} {w0 : World} {m k v : Operand} (x : α) (hg : o.guard = none) (ho : o.op = .mapUpdate T m k v) (kk : KeyKind P K enc) (hT : P.underlying T = some (.map K E))
    (hm : a.eval m = v') (hx : a.eval k = enc x) (hv : a.eval v = .bool true) (HO : R enc e W base ok v' l) (HB : Below base w0 W)
    (h : ∀ w', R enc e w' base (fun _ => True) v' (l ++ [x]) → Below base w0 w' → Only enc W w' → wpList P ops Q rest (a.put o.dst undef) w') : wpList P ops Q (o :: rest) a W := by
  obtain ⟨b, xs, rfl, hs, hb, hl⟩ := HO
  refine wpList_put hg ho kk hT hs x hm hx hv (q := decide (x ∈ xs)) ⟨by simp⟩ HB hb fun w' h1 h2 h3 _ => h w' ⟨b, _, rfl, h1, hb, fun y => ?_⟩ h2 ⟨b, xs, hs, h3⟩
  by_cases c : x ∈ xs
  · rw [decide_eq_true c, if_pos rfl, List.mem_append, List.mem_singleton, hl]
    exact ⟨Or.inl, fun q => q.elim (fun q => q) fun q => by rw [q]; exact (hl _).1 c⟩
  · rw [decide_eq_false c, if_neg (by decide), List.mem_append, List.mem_append, List.mem_singleton, hl]
theorem look_event {α : Type} [DecidableEq α] {enc : α → Value} {e base : Nat} {ok : Nat → Prop} {v' : Value} {l : List α} {m k : Operand} (x : α) (q : Bool) (hw : Region.wanted o (yielded ops a.tmps) = true) (ho : o.op = .lookup T m k false) (kk : KeyKind P K enc) (hT : P.underlying T = some (.map K E)) (hz : ∀ w, (zeroValue E).run P w = .ok (.bool false) w)
    (hm : a.eval m = v') (hx : a.eval k = enc x) (HO : R enc e W base ok v' l) (hq : some (decide (x ∈ l)) = some q)
    (h : wpList P ops Q rest (a.put o.dst (.bool q)) W) : wpList P ops Q (o :: rest) a W := by
  obtain ⟨b, xs, rfl, hs, hb, hl⟩ := HO
  exact wpList_look hw ho kk hT (hz W) hs x hm hx (q := q) ⟨by rw [← Option.some.inj hq, hl]; simp⟩ h
theorem look_eventB {α : Type} [DecidableEq α] {enc : α → Value} {e base : Nat} {ok : Nat → Prop} {v' : Value} {l : List α} {m k : Operand} (x : α) (q : Bool) (hw : Region.wanted o (yielded ops a.tmps) = true) (ho : o.op = .lookup T m k false) (kk : KeyKind P K enc) (hT : P.underlying T = some (.map K E)) (hz : ∀ w, (zeroValue E).run P w = .ok (.bool false) w)
    (hm : a.eval m = v') (hx : a.eval k = enc x) (HO : R enc e W base ok v' l) (hq : some (decide (x ∈ l)) = some q)
    (h : ∀ w', Below W.heap.size W w' → wpList P ops Q rest (a.put o.dst (.bool q)) w') : wpList P ops Q (o :: rest) a W :=
  look_event x q hw ho kk hT hz hm hx HO hq (h W (Below.refl _ _))
end
end Go.Proofs.Ytkcmdfeiaafdjaa.Mk
