/-
  No cell of these rows narrows 'for every input' (looked for: loops, veiled, ifaces, maps, wideKeys, modest, calm, conditions, laid).
  DERIVED. THE GIVEN ROWS OF THIS SEAT. 6 by the template 'for every input the law returns true; each argument reads behind the call as it read before'; 0 by the template 'total and deterministic' (their statements: YtkcmdfeiaafdjaaTotals.lean).
  GIVEN WITH THE SEED: the statements are not yours to turn. If you find one false, say at which input.
  Laid BY PROGRAM, IN A SANDBOX (cutbox-rows.mjs): the forced cells as the released guide's own fill.sh prints them over the translation ba6df2bf464892a9… (all of the seat's roots in one cut). By AI agents, Wed Nov 11 2026. No macro, syntax, notation, axiom, sorry.
-/
import Derived.Test.YtkcmdfeiaafdjaaChecked
import GoSem.Claim
import GoSem.ClaimJoined
import GoSem.ClaimMapViews
import Derived.JoinedTies
import Derived.KernelRfl
namespace Go.Proofs.Ytkcmdfeiaafdjaa
/- THE CELL 'sum', in the pinned program and in every row, IS THE sha256 OF THE DUMP (.gsa) THAT YtkcmdfeiaafdjaaProg.lean LOADS. Nothing in Lean hashes anything: it is a label: what it is worth is what the hold of that sum in a sandbox is worth. -/
noncomputable def Try.pinned : Pinned := { name := "ytkcmdfeiaafdjaa", sum := "ba6df2bf464892a9ab1a0ea6fe29cf0be6b452ca5802b30f3f93b8364be68c10", checked := Try.checked }
namespace Rows
def none {H : Type} : Left H := { results := [], args := [] }

/-- 'laws.FnExactRoute7': WHATEVER THE INPUT: true; the input reads as it did. -/
def fnExactRoute7Spec : ChangeSpec := { name := "fnExactRoute7", fn := fun _ => fun
  | [d1, d2, d3] => { results := [.lit (.bool true)], args := [d1, d2, d3] }
  | _ => none }
def fnExactRoute7Row : OpenClaim := { program := "ytkcmdfeiaafdjaa", sum := "ba6df2bf464892a9ab1a0ea6fe29cf0be6b452ca5802b30f3f93b8364be68c10", func := "loop.example/g00052/laws.FnExactRoute7", spec := "fnExactRoute7", unfollowed := true, recurses := true, plainKeys := false, apart := false }
def FnExactRoute7Said : Prop := fnExactRoute7Row.holds Try.pinned (OpenSpec.ofChange fnExactRoute7Spec)

/-- ITS FALSE NEIGHBOUR: 'it returns false'. Refute it at one input. -/
def fnExactRoute7Wrong : ChangeSpec := { name := "fnExactRoute7", fn := fun _ => fun
  | [d1, d2, d3] => { results := [.lit (.bool false)], args := [d1, d2, d3] }
  | _ => none }
def FnExactRoute7WrongFalsely : Prop := fnExactRoute7Row.holds Try.pinned (OpenSpec.ofChange fnExactRoute7Wrong)

/-- 'laws.FnHops': WHATEVER THE INPUT: true; the input reads as it did. -/
def fnHopsSpec : ChangeSpec := { name := "fnHops", fn := fun _ => fun
  | [d] => { results := [.lit (.bool true)], args := [d] }
  | _ => none }
def fnHopsRow : OpenClaim := { program := "ytkcmdfeiaafdjaa", sum := "ba6df2bf464892a9ab1a0ea6fe29cf0be6b452ca5802b30f3f93b8364be68c10", func := "loop.example/g00052/laws.FnHops", spec := "fnHops", unfollowed := true, recurses := true, plainKeys := false, apart := false }
def FnHopsSaid : Prop := fnHopsRow.holds Try.pinned (OpenSpec.ofChange fnHopsSpec)

/-- ITS FALSE NEIGHBOUR: 'it returns false'. Refute it at one input. -/
def fnHopsWrong : ChangeSpec := { name := "fnHops", fn := fun _ => fun
  | [d] => { results := [.lit (.bool false)], args := [d] }
  | _ => none }
def FnHopsWrongFalsely : Prop := fnHopsRow.holds Try.pinned (OpenSpec.ofChange fnHopsWrong)

/-- 'laws.FnScreened': WHATEVER THE INPUT: true; the input reads as it did. -/
def fnScreenedSpec : ChangeSpec := { name := "fnScreened", fn := fun _ => fun
  | [d] => { results := [.lit (.bool true)], args := [d] }
  | _ => none }
def fnScreenedRow : OpenClaim := { program := "ytkcmdfeiaafdjaa", sum := "ba6df2bf464892a9ab1a0ea6fe29cf0be6b452ca5802b30f3f93b8364be68c10", func := "loop.example/g00052/laws.FnScreened", spec := "fnScreened", unfollowed := true, recurses := true, plainKeys := false, apart := false }
def FnScreenedSaid : Prop := fnScreenedRow.holds Try.pinned (OpenSpec.ofChange fnScreenedSpec)

/-- ITS FALSE NEIGHBOUR: 'it returns false'. Refute it at one input. -/
def fnScreenedWrong : ChangeSpec := { name := "fnScreened", fn := fun _ => fun
  | [d] => { results := [.lit (.bool false)], args := [d] }
  | _ => none }
def FnScreenedWrongFalsely : Prop := fnScreenedRow.holds Try.pinned (OpenSpec.ofChange fnScreenedWrong)

/-- 'laws.FnExactOrder7': WHATEVER THE INPUT: true; the input reads as it did. -/
def fnExactOrder7Spec : ChangeSpec := { name := "fnExactOrder7", fn := fun _ => fun
  | [d1, d2] => { results := [.lit (.bool true)], args := [d1, d2] }
  | _ => none }
def fnExactOrder7Row : OpenClaim := { program := "ytkcmdfeiaafdjaa", sum := "ba6df2bf464892a9ab1a0ea6fe29cf0be6b452ca5802b30f3f93b8364be68c10", func := "loop.example/g00052/laws.FnExactOrder7", spec := "fnExactOrder7", unfollowed := true, recurses := true, plainKeys := false, apart := false }
def FnExactOrder7Said : Prop := fnExactOrder7Row.holds Try.pinned (OpenSpec.ofChange fnExactOrder7Spec)

/-- ITS FALSE NEIGHBOUR: 'it returns false'. Refute it at one input. -/
def fnExactOrder7Wrong : ChangeSpec := { name := "fnExactOrder7", fn := fun _ => fun
  | [d1, d2] => { results := [.lit (.bool false)], args := [d1, d2] }
  | _ => none }
def FnExactOrder7WrongFalsely : Prop := fnExactOrder7Row.holds Try.pinned (OpenSpec.ofChange fnExactOrder7Wrong)

/-- 'laws.FnExactClashes': WHATEVER THE INPUT: true; the input reads as it did. -/
def fnExactClashesSpec : ChangeSpec := { name := "fnExactClashes", fn := fun _ => fun
  | [d] => { results := [.lit (.bool true)], args := [d] }
  | _ => none }
def fnExactClashesRow : OpenClaim := { program := "ytkcmdfeiaafdjaa", sum := "ba6df2bf464892a9ab1a0ea6fe29cf0be6b452ca5802b30f3f93b8364be68c10", func := "loop.example/g00052/laws.FnExactClashes", spec := "fnExactClashes", unfollowed := true, recurses := true, plainKeys := false, apart := false }
def FnExactClashesSaid : Prop := fnExactClashesRow.holds Try.pinned (OpenSpec.ofChange fnExactClashesSpec)

/-- ITS FALSE NEIGHBOUR: 'it returns false'. Refute it at one input. -/
def fnExactClashesWrong : ChangeSpec := { name := "fnExactClashes", fn := fun _ => fun
  | [d] => { results := [.lit (.bool false)], args := [d] }
  | _ => none }
def FnExactClashesWrongFalsely : Prop := fnExactClashesRow.holds Try.pinned (OpenSpec.ofChange fnExactClashesWrong)

/-- 'laws.FnFeatureOrder': WHATEVER THE INPUT: true; the input reads as it did. -/
def fnFeatureOrderSpec : ChangeSpec := { name := "fnFeatureOrder", fn := fun _ => fun
  | [d] => { results := [.lit (.bool true)], args := [d] }
  | _ => none }
def fnFeatureOrderRow : OpenClaim := { program := "ytkcmdfeiaafdjaa", sum := "ba6df2bf464892a9ab1a0ea6fe29cf0be6b452ca5802b30f3f93b8364be68c10", func := "loop.example/g00052/laws.FnFeatureOrder", spec := "fnFeatureOrder", unfollowed := true, recurses := true, plainKeys := false, apart := false }
def FnFeatureOrderSaid : Prop := fnFeatureOrderRow.holds Try.pinned (OpenSpec.ofChange fnFeatureOrderSpec)

/-- ITS FALSE NEIGHBOUR: 'it returns false'. Refute it at one input. -/
def fnFeatureOrderWrong : ChangeSpec := { name := "fnFeatureOrder", fn := fun _ => fun
  | [d] => { results := [.lit (.bool false)], args := [d] }
  | _ => none }
def FnFeatureOrderWrongFalsely : Prop := fnFeatureOrderRow.holds Try.pinned (OpenSpec.ofChange fnFeatureOrderWrong)

/- THE SECOND FORM. 'bulk': how many values and letters a reading holds, each counted each time it is reached (what is shared counts as often as it is met; a slice's spare places count too). A statement '..UptoSaid' is the law's where the arguments, and the package variables that the reading takes, are together of bulk at most 1048576: NARROWER than '..Said'. Prove '..Said' where nothing that the law and all that it calls make is longer than what came in: it says more and counts as full. Else prove '..UptoSaid'. A law counts once. -/
mutual
def uptoBulk {H : Type} : DataW H → Nat
  | .lit (.string bytes) => bytes.length + 1
  | .lit _ => 1
  | .nil => 1
  | .ptr d => uptoBulk d + 1
  | .slice elems spare => uptoBulkAll elems + uptoBulkAll spare + 1
  | .agg parts => uptoBulkAll parts + 1
  | .iface _ d => uptoBulk d + 1
  | .map entries => uptoBulkEntries entries + 1
  | .held _ => 1
def uptoBulkAll {H : Type} : List (DataW H) → Nat
  | [] => 0
  | d :: r => uptoBulk d + uptoBulkAll r
def uptoBulkEntries {H : Type} : List (Lit × DataW H) → Nat
  | [] => 0
  | x :: r => uptoBulkEntry x + uptoBulkEntries r
def uptoBulkEntry {H : Type} : Lit × DataW H → Nat
  | (.string bytes, d) => bytes.length + uptoBulk d + 1
  | (_, d) => uptoBulk d + 1
 end
def uptoSmall : (H : Type) → List (DataW H) → Bool := fun _ ds => decide (uptoBulkAll ds ≤ 1048576)
def OpenSpec.upto (s : _root_.Go.ChangeSpec) : _root_.Go.OpenSpec := { _root_.Go.OpenSpec.ofChange s with cond := some uptoSmall }

/-- 'laws.FnExactRoute7', WHERE WHAT IT READS IS OF BULK AT MOST 1048576: true; the input reads as it did. -/
def fnExactRoute7UptoRow : OpenClaim := { program := "ytkcmdfeiaafdjaa", sum := "ba6df2bf464892a9ab1a0ea6fe29cf0be6b452ca5802b30f3f93b8364be68c10", func := "loop.example/g00052/laws.FnExactRoute7", spec := "fnExactRoute7", unfollowed := true, recurses := true, plainKeys := false, apart := false, narrowed := true }
def FnExactRoute7UptoSaid : Prop := fnExactRoute7UptoRow.holds Try.pinned (OpenSpec.upto fnExactRoute7Spec)

/-- 'laws.FnHops', WHERE WHAT IT READS IS OF BULK AT MOST 1048576: true; the input reads as it did. -/
def fnHopsUptoRow : OpenClaim := { program := "ytkcmdfeiaafdjaa", sum := "ba6df2bf464892a9ab1a0ea6fe29cf0be6b452ca5802b30f3f93b8364be68c10", func := "loop.example/g00052/laws.FnHops", spec := "fnHops", unfollowed := true, recurses := true, plainKeys := false, apart := false, narrowed := true }
def FnHopsUptoSaid : Prop := fnHopsUptoRow.holds Try.pinned (OpenSpec.upto fnHopsSpec)

/-- 'laws.FnScreened', WHERE WHAT IT READS IS OF BULK AT MOST 1048576: true; the input reads as it did. -/
def fnScreenedUptoRow : OpenClaim := { program := "ytkcmdfeiaafdjaa", sum := "ba6df2bf464892a9ab1a0ea6fe29cf0be6b452ca5802b30f3f93b8364be68c10", func := "loop.example/g00052/laws.FnScreened", spec := "fnScreened", unfollowed := true, recurses := true, plainKeys := false, apart := false, narrowed := true }
def FnScreenedUptoSaid : Prop := fnScreenedUptoRow.holds Try.pinned (OpenSpec.upto fnScreenedSpec)

/-- 'laws.FnExactOrder7', WHERE WHAT IT READS IS OF BULK AT MOST 1048576: true; the input reads as it did. -/
def fnExactOrder7UptoRow : OpenClaim := { program := "ytkcmdfeiaafdjaa", sum := "ba6df2bf464892a9ab1a0ea6fe29cf0be6b452ca5802b30f3f93b8364be68c10", func := "loop.example/g00052/laws.FnExactOrder7", spec := "fnExactOrder7", unfollowed := true, recurses := true, plainKeys := false, apart := false, narrowed := true }
def FnExactOrder7UptoSaid : Prop := fnExactOrder7UptoRow.holds Try.pinned (OpenSpec.upto fnExactOrder7Spec)

/-- 'laws.FnExactClashes', WHERE WHAT IT READS IS OF BULK AT MOST 1048576: true; the input reads as it did. -/
def fnExactClashesUptoRow : OpenClaim := { program := "ytkcmdfeiaafdjaa", sum := "ba6df2bf464892a9ab1a0ea6fe29cf0be6b452ca5802b30f3f93b8364be68c10", func := "loop.example/g00052/laws.FnExactClashes", spec := "fnExactClashes", unfollowed := true, recurses := true, plainKeys := false, apart := false, narrowed := true }
def FnExactClashesUptoSaid : Prop := fnExactClashesUptoRow.holds Try.pinned (OpenSpec.upto fnExactClashesSpec)

/-- 'laws.FnFeatureOrder', WHERE WHAT IT READS IS OF BULK AT MOST 1048576: true; the input reads as it did. -/
def fnFeatureOrderUptoRow : OpenClaim := { program := "ytkcmdfeiaafdjaa", sum := "ba6df2bf464892a9ab1a0ea6fe29cf0be6b452ca5802b30f3f93b8364be68c10", func := "loop.example/g00052/laws.FnFeatureOrder", spec := "fnFeatureOrder", unfollowed := true, recurses := true, plainKeys := false, apart := false, narrowed := true }
def FnFeatureOrderUptoSaid : Prop := fnFeatureOrderUptoRow.holds Try.pinned (OpenSpec.upto fnFeatureOrderSpec)

end Rows
end Go.Proofs.Ytkcmdfeiaafdjaa
