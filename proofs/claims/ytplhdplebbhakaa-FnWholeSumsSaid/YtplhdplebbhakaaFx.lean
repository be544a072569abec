/- Floats told by their bits, as whole numbers: what the print's walks of chapter 14 need. No condition. -/
import Derived.Test.YtplhdplebbhakaaWh
set_option linter.unusedVariables false
set_option linter.unusedSimpArgs false
namespace Go.Proofs.Ytplhdplebbhakaa.Fx
open Go.RowKit Go.Proofs.YtplhdplebbhakaaW.PrintWords Go.Proofs.YtplhdplebbhakaaW.PrintLast Go.Proofs.YtplhdplebbhakaaW.PrintMore Go.Proofs.Ytplhdplebbhakaa.Fl Go.Proofs.Ytplhdplebbhakaa.Smp
abbrev F32 (x : Int) : Value := .float .f32 x.toNat
abbrev F64 (x : Int) : Value := .float .f64 x.toNat
def k32 : Kd Int := Kd.scalar F32 (fun _ => rfl)
def k64 : Kd Int := Kd.scalar F64 (fun _ => rfl)
def op (k : FloatKind) (o : BinOp) (x y : Int) : Option Int := (floatBits o k x.toNat y.toNat).map (fun r : Nat => (r : Int))
def conv (k k2 : FloatKind) (x : Int) : Option Int := (floatToFloatBits k x.toNat k2).map (fun r : Nat => (r : Int))
def feq (k : FloatKind) (x y : Int) : Bool := k.format.order x.toNat y.toNat == some .eq
theorem op_res {k : FloatKind} {o : BinOp} {x y t : Int} (h : op k o x y = some t) {r : Nat} (hr : Res k (floatBits o k x.toNat y.toNat) r) : r = t.toNat := by
  unfold op at h
  cases e : floatBits o k x.toNat y.toNat with
  | none => rw [e] at h; cases h
  | some v => rw [e] at h hr; obtain rfl := Option.some.inj h; exact hr
theorem conv_res {k k2 : FloatKind} {x t : Int} (h : conv k k2 x = some t) {r : Nat} (hr : ∀ v, floatToFloatBits k x.toNat k2 = some v → r = v) : r = t.toNat := by
  unfold conv at h
  cases e : floatToFloatBits k x.toNat k2 with
  | none => rw [e] at h; cases h
  | some v => rw [e] at h; obtain rfl := Option.some.inj h; exact hr v e
theorem bind2 {α β : Type} {a : Option α} {b : Option α} {f : α → α → β} {r : β} (h : (a.bind fun x => b.bind fun y => some (f x y)) = some r) : ∃ x y, a = some x ∧ b = some y ∧ f x y = r := by
  cases a with
  | none => cases h
  | some x =>
    cases b with
    | none => cases h
    | some y => exact ⟨x, y, rfl, rfl, Option.some.inj h⟩
section
variable {P : Program} {ops : Array Oper} {rest : List Oper} {o : Oper} {a : Act} {Q : Exit → Act → World → Prop} {w : World}
/-- A float's operation that comes to a number: it draws nothing that is seen. -/
theorem arith (hg : o.guard = none) {op' : BinOp} {t t2 : TypeId} {p q : Operand} (ho : o.op = .binOp op' t p q t2) (hop : op' = .add ∨ op' = .sub ∨ op' = .mul ∨ op' = .quo) {k : FloatKind} {x y z : Int} (h : op k op' x y = some z)
    (hp : a.eval p = .float k x.toNat) (hq : a.eval q = .float k y.toNat) (hK : ∀ n, wpList P ops Q rest (a.put o.dst (.float k z.toNat)) (w.drewN n)) : wpList P ops Q (o :: rest) a w :=
  wpList_farith hg ho hop hp hq (fun r n hr => by rw [op_res h hr]; exact hK n)
theorem fromInt (hg : o.guard = none) {s d : TypeId} {p : Operand} (ho : o.op = .convert s d p) (hs : P.underlying s = some (.int .i64)) (hd : P.underlying d = some (.float .f32)) {z t : Int} (h : some ((floatOfInt .f32 z : Nat) : Int) = some t)
    (hp : a.eval p = .int .i64 z) (hK : ∀ n, wpList P ops Q rest (a.put o.dst (.float .f32 t.toNat)) (w.drewN n)) : wpList P ops Q (o :: rest) a w := by
  obtain rfl := Option.some.inj h
  refine wpList_plain hg fun K' hK' => ?_
  have hrun : (convert s d (.int .i64 z)).run P w = .ok (.float .f32 (floatOfInt .f32 z)) (w.drewN 0) := by
    simp [convert, run_underlying hs, run_underlying hd]
    rfl
  unfold Oper.wp
  simp [execOp, ho, hp, hrun, Result.andThen]
  exact hK' _ _ (hK 0)
end
end Go.Proofs.Ytplhdplebbhakaa.Fx
