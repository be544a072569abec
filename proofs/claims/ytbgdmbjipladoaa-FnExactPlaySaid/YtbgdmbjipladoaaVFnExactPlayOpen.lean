/- What an argument's reading as data gives in the print's words: for each type a lemma 'Opens'. No condition. -/
import Derived.Test.YtbgdmbjipladoaaVFnExactPlayWWords
import Derived.Test.YtbgdmbjipladoaaVFnExactPlayWMore
import Derived.OpenShut
import Derived.ChangeArms
import Derived.DataReads
import Derived.WideShapes
import Derived.ProofKit
set_option linter.unusedVariables false
namespace Go.Proofs.Ytbgdmbjipladoaa.Open
open Go.RowKit Go.WideShapes Go.Proofs.YtbgdmbjipladoaaW.PrintWords

/-- Whatever reads as data at type t holds a value of kind d that meets wf. -/
structure Opens {α : Type} (P : Program) (t : TypeId) (d : Kd α) (wf : α → Prop) : Prop where
  size : P.cellsOf t = d.sz
  get : ∀ {H : Type} {enc : TypeId × Value → H} {w : World} {spare : Nat → Bool} {held : Bool} {fuel : Nat} {cs : List Value} {x : DataW H × List MemPlace},
    DataW.trod enc P w 0 spare held fuel t cs = some x → ∃ v, d.K w v cs ∧ wf v

theorem Opens.int {P : Program} {t : TypeId} {k : IntKind} (hu : P.underlying t = some (.int k)) (hs : P.cellsOf t = 1) : Opens P t (Kd.int k) (fun n => (Lit.int k n).wf = true) :=
  ⟨hs, fun h => by
    obtain ⟨n, rfl, _, hw⟩ := DataW.trod_int hu h
    exact ⟨n, rfl, hw⟩⟩
theorem trod_float' {H : Type} {enc : TypeId × Value → H} {P : Program} {w : World} {base : Nat} {spare : Nat → Bool} {held : Bool} {fuel : Nat} {t : TypeId} {cs : List Value} {x : DataW H × List MemPlace} {k : FloatKind} (ht : P.underlying t = some (.float k)) (h : DataW.trod enc P w base spare held fuel t cs = some x) : ∃ n, cs = [.float k n] ∧ x = (.lit (.float k n), []) ∧ (Lit.float k n).wf = true := by
  cases fuel with
  | zero => simp [DataW.trod] at h
  | succ n =>
    unfold DataW.trod at h
    rw [ht] at h
    split at h <;> simp_all
theorem Opens.float {P : Program} {t : TypeId} {k : FloatKind} (hu : P.underlying t = some (.float k)) (hs : P.cellsOf t = 1) : Opens P t (Kd.scalar (Value.float k) (fun _ => rfl)) (fun n => (Lit.float k n).wf = true) :=
  ⟨hs, fun h => by
    obtain ⟨n, rfl, _, hw⟩ := trod_float' hu h
    exact ⟨n, rfl, hw⟩⟩
theorem Opens.bool {P : Program} {t : TypeId} (hu : P.underlying t = some .bool) (hs : P.cellsOf t = 1) : Opens P t Kd.bool (fun _ => True) :=
  ⟨hs, fun h => by
    obtain ⟨n, rfl, _⟩ := DataW.trod_bool hu h
    exact ⟨n, rfl, trivial⟩⟩
theorem Opens.string {P : Program} {t : TypeId} (hu : P.underlying t = some .string) (hs : P.cellsOf t = 1) : Opens P t Kd.string (fun s => s.size ≤ maxLen) :=
  ⟨hs, fun h => by
    obtain ⟨n, rfl, _, hw⟩ := DataW.trod_string hu h
    exact ⟨n, rfl, hw⟩⟩
theorem Opens.iso {α β : Type} {P : Program} {t : TypeId} {d : Kd α} {wf : α → Prop} (h : Opens P t d wf) (f : β → α) (g : α → β) (hg : ∀ a, f (g a) = a) : Opens P t (Kd.iso d f) (fun b => wf (f b)) :=
  ⟨h.size, fun hx => by
    obtain ⟨v, hk, hw⟩ := h.get hx
    refine ⟨g v, ?_, by rw [hg]; exact hw⟩
    show d.K _ (f (g v)) _
    rw [hg]
    exact hk⟩
/-- For each place a value: a list of them. -/
theorem list_of {α : Type} {n : Nat} {R : Nat → α → Prop} (h : ∀ i, i < n → ∃ v, R i v) : ∃ xs : List α, xs.length = n ∧ ∀ i x, xs[i]? = some x → R i x := by
  induction n with
  | zero => exact ⟨[], rfl, fun i x hx => by simp at hx⟩
  | succ n ih =>
    obtain ⟨xs, hl, hx⟩ := ih fun i hi => h i (by omega)
    obtain ⟨v, hv⟩ := h n (by omega)
    refine ⟨xs ++ [v], by simp [hl], fun i x hi => ?_⟩
    by_cases e : i < n
    · rw [List.getElem?_append_left (by omega)] at hi
      exact hx i x hi
    · rw [List.getElem?_append_right (by omega)] at hi
      have e2 : i - xs.length = 0 := by
        have : i - xs.length < 1 := by
          have := List.getElem?_eq_some_iff.1 hi
          obtain ⟨hb, _⟩ := this
          simpa using hb
        omega
      rw [e2] at hi
      obtain rfl : i = n := by omega
      simp at hi
      exact hi ▸ hv
theorem Opens.slice {α : Type} {P : Program} {t e : TypeId} {d : Kd α} {wf : α → Prop} (hu : P.underlying t = some (.slice e)) (hs : P.cellsOf t = 1) (he : Opens P e d wf) :
    Opens P t (Kd.slice e d) (fun xs => (∀ x ∈ xs, wf x) ∧ xs.length ≤ maxLen) :=
  ⟨hs, fun {H enc w spare held fuel cs x} h => by
    rcases DataW.trod_slice hu h with ⟨rfl, _⟩ | ⟨a, len, cap, elems, rest, n, rfl, rfl, _, _, hl, hc, hel, hcells, _⟩
    · exact ⟨[], ⟨none, 0, rfl, Nat.le_refl _, rfl, by simp, fun h => by simp at h⟩, by simp, by simp⟩
    · have hat : ∀ i, i < len → ∃ v, (∃ c : List Value, c.length = d.sz ∧ d.K w v c ∧ ∀ j u, c[j]? = some u → w.cell? (a.add (i * d.sz + j)) = some u) ∧ wf v := by
        intro i hi
        have h1 := hcells i hi
        rw [List.getElem?_eq_getElem (show i < elems.length by omega)] at h1
        obtain ⟨c, hc1, hc2⟩ := Option.bind_eq_some_iff.1 h1
        obtain ⟨v, hv, hw⟩ := he.get hc2
        rw [he.size] at hc1
        have h2 : (List.range d.sz).mapM (fun q => w.cell? ((a.add (i * d.sz)).add q)) = some c := by
          unfold World.cells? at hc1
          split at hc1
          · exact hc1
          · cases hc1
        have hlen : c.length = d.sz := by simpa using mapM_some_length h2
        refine ⟨v, ⟨c, hlen, hv, fun j u hj => ?_⟩, hw⟩
        have hj2 : j < d.sz := by
          have := (List.getElem?_eq_some_iff.1 hj).1
          omega
        have h3 := mapM_some_get h2 j j (by simp [hj2])
        rw [hj] at h3
        rw [← Addr.add_add]
        exact h3
      obtain ⟨xs, hxl, hx⟩ := list_of hat
      refine ⟨xs, ⟨some a, cap, by rw [hxl], by omega, ?_⟩, fun x hx2 => ?_, by omega⟩
      · refine ⟨rfl, by simp only [maxLen] at hc; omega, fun _ => ⟨a, rfl, fun j p hj => ?_⟩⟩
        obtain ⟨⟨c, hc1, hc2, hc3⟩, _⟩ := hx j p hj
        exact ⟨c, hc1, hc2, hc3⟩
      · obtain ⟨i, hi, rfl⟩ := List.getElem_of_mem hx2
        exact (hx i _ (List.getElem?_eq_getElem hi)).2⟩

/-! A record's fields -/
theorem K_cons {α β : Type} {a : Kd α} {b : Kd β} {w : World} {x : α} {y : β} {cs : List Value} (o n o' : Nat) (ho : o + n = o') (h : a.K w x ((cs.drop o).take n)) (k : b.K w y (cs.drop o')) : (Kd.pair a b).K w (x, y) (cs.drop o) := by
  refine ⟨(cs.drop o).take n, (cs.drop o).drop n, (List.take_append_drop _ _).symm, h, ?_⟩
  rw [List.drop_drop, ho]
  exact k
theorem K_last {α : Type} {a : Kd α} {w : World} {x : α} {cs : List Value} (o n : Nat) (hl : cs.length = o + n) (h : a.K w x ((cs.drop o).take n)) : a.K w x (cs.drop o) := by
  rwa [List.take_of_length_le (by simp; omega)] at h
theorem K_start {α : Type} {a : Kd α} {w : World} {x : α} {cs : List Value} (h : a.K w x (cs.drop 0)) : a.K w x cs := by simpa using h
theorem field_of {α : Type} {P : Program} {t : TypeId} {d : Kd α} {wf : α → Prop} (h : Opens P t d wf) {H : Type} {enc : TypeId × Value → H} {w : World} {spare : Nat → Bool} {held : Bool} {fuel : Nat} {cs : List Value} {xs : List (DataW H × List MemPlace)} {i o n : Nat}
    (hf : DataW.trod enc P w 0 spare held fuel t ((cs.drop o).take n) = xs[i]?) (hi : i < xs.length) : ∃ v, d.K w v ((cs.drop o).take n) ∧ wf v := by
  rw [List.getElem?_eq_getElem hi] at hf
  exact h.get hf
theorem okWide_array {P : Program} {w : World} {r : Reach} {base : Nat} {t e : TypeId} {n : Nat} {v : Value} (ht : P.underlying t = some (.array n e)) (h : Value.okWide P w r base t v) : ∃ cs, v = .agg cs ∧ cs.size = P.cellsOf t := by
  simp only [Value.okWide, ht] at h
  obtain ⟨cs, h1, h2, _⟩ := h
  exact ⟨cs, h1, h2⟩
end Go.Proofs.Ytbgdmbjipladoaa.Open
