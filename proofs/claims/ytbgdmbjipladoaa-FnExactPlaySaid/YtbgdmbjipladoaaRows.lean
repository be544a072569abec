/-
  No cell of these rows narrows 'for every input' (looked for: loops, veiled, ifaces, maps, wideKeys, modest, calm, conditions, laid).
  DERIVED. THE GIVEN ROWS OF THIS SEAT. 9 by the template 'for every input the law returns true; each argument reads behind the call as it read before'; 0 by the template 'total and deterministic' (their statements: YtbgdmbjipladoaaTotals.lean).
  GIVEN WITH THE SEED: the statements are not yours to turn. If you find one false, say at which input.
  Laid BY PROGRAM, IN A SANDBOX (cutbox-rows.mjs): the forced cells as the released guide's own fill.sh prints them over the translation 62d434d0001bb4ad… (all of the seat's roots in one cut). By AI agents, Wed Nov 11 2026. No macro, syntax, notation, axiom, sorry.
-/
import Derived.Test.YtbgdmbjipladoaaChecked
import GoSem.Claim
import GoSem.ClaimJoined
import GoSem.ClaimMapViews
import Derived.JoinedTies
import Derived.KernelRfl
namespace Go.Proofs.Ytbgdmbjipladoaa
/- THE CELL 'sum', in the pinned program and in every row, IS THE sha256 OF THE DUMP (.gsa) THAT YtbgdmbjipladoaaProg.lean LOADS. Nothing in Lean hashes anything: it is a label: what it is worth is what the hold of that sum in a sandbox is worth. -/
noncomputable def Try.pinned : Pinned := { name := "ytbgdmbjipladoaa", sum := "62d434d0001bb4adab6f4d76563681aa11faf20f2d692e8fd1ebdc9194489689", checked := Try.checked }
namespace Rows
def none {H : Type} : Left H := { results := [], args := [] }

/-- 'laws.FnExactSteady': WHATEVER THE INPUT: true; the input reads as it did. -/
def fnExactSteadySpec : ChangeSpec := { name := "fnExactSteady", fn := fun _ => fun
  | [d] => { results := [.lit (.bool true)], args := [d] }
  | _ => none }
def fnExactSteadyRow : OpenClaim := { program := "ytbgdmbjipladoaa", sum := "62d434d0001bb4adab6f4d76563681aa11faf20f2d692e8fd1ebdc9194489689", func := "loop.example/g00052/laws.FnExactSteady", spec := "fnExactSteady", apart := false }
def FnExactSteadySaid : Prop := fnExactSteadyRow.holds Try.pinned (OpenSpec.ofChange fnExactSteadySpec)

/-- ITS FALSE NEIGHBOUR: 'it returns false'. Refute it at one input. -/
def fnExactSteadyWrong : ChangeSpec := { name := "fnExactSteady", fn := fun _ => fun
  | [d] => { results := [.lit (.bool false)], args := [d] }
  | _ => none }
def FnExactSteadyWrongFalsely : Prop := fnExactSteadyRow.holds Try.pinned (OpenSpec.ofChange fnExactSteadyWrong)

/-- 'laws.FnExactPlayerOk': WHATEVER THE INPUT: true; the input reads as it did. -/
def fnExactPlayerOkSpec : ChangeSpec := { name := "fnExactPlayerOk", fn := fun _ => fun
  | [d] => { results := [.lit (.bool true)], args := [d] }
  | _ => none }
def fnExactPlayerOkRow : OpenClaim := { program := "ytbgdmbjipladoaa", sum := "62d434d0001bb4adab6f4d76563681aa11faf20f2d692e8fd1ebdc9194489689", func := "loop.example/g00052/laws.FnExactPlayerOk", spec := "fnExactPlayerOk", apart := false }
def FnExactPlayerOkSaid : Prop := fnExactPlayerOkRow.holds Try.pinned (OpenSpec.ofChange fnExactPlayerOkSpec)

/-- ITS FALSE NEIGHBOUR: 'it returns false'. Refute it at one input. -/
def fnExactPlayerOkWrong : ChangeSpec := { name := "fnExactPlayerOk", fn := fun _ => fun
  | [d] => { results := [.lit (.bool false)], args := [d] }
  | _ => none }
def FnExactPlayerOkWrongFalsely : Prop := fnExactPlayerOkRow.holds Try.pinned (OpenSpec.ofChange fnExactPlayerOkWrong)

/-- 'laws.FnExactReady': WHATEVER THE INPUT: true; the input reads as it did. -/
def fnExactReadySpec : ChangeSpec := { name := "fnExactReady", fn := fun _ => fun
  | [d] => { results := [.lit (.bool true)], args := [d] }
  | _ => none }
def fnExactReadyRow : OpenClaim := { program := "ytbgdmbjipladoaa", sum := "62d434d0001bb4adab6f4d76563681aa11faf20f2d692e8fd1ebdc9194489689", func := "loop.example/g00052/laws.FnExactReady", spec := "fnExactReady", apart := false }
def FnExactReadySaid : Prop := fnExactReadyRow.holds Try.pinned (OpenSpec.ofChange fnExactReadySpec)

/-- ITS FALSE NEIGHBOUR: 'it returns false'. Refute it at one input. -/
def fnExactReadyWrong : ChangeSpec := { name := "fnExactReady", fn := fun _ => fun
  | [d] => { results := [.lit (.bool false)], args := [d] }
  | _ => none }
def FnExactReadyWrongFalsely : Prop := fnExactReadyRow.holds Try.pinned (OpenSpec.ofChange fnExactReadyWrong)

/-- 'laws.FnExactPut': WHATEVER THE INPUT: true; the input reads as it did. -/
def fnExactPutSpec : ChangeSpec := { name := "fnExactPut", fn := fun _ => fun
  | [d1, d2] => { results := [.lit (.bool true)], args := [d1, d2] }
  | _ => none }
def fnExactPutRow : OpenClaim := { program := "ytbgdmbjipladoaa", sum := "62d434d0001bb4adab6f4d76563681aa11faf20f2d692e8fd1ebdc9194489689", func := "loop.example/g00052/laws.FnExactPut", spec := "fnExactPut", inPlace := ["slices.overlaps[loop.example/g00052/impl.Packet]"], unfollowed := true, recurses := true, apart := false }
def FnExactPutSaid : Prop := fnExactPutRow.holds Try.pinned (OpenSpec.ofChange fnExactPutSpec)

/-- ITS FALSE NEIGHBOUR: 'it returns false'. Refute it at one input. -/
def fnExactPutWrong : ChangeSpec := { name := "fnExactPut", fn := fun _ => fun
  | [d1, d2] => { results := [.lit (.bool false)], args := [d1, d2] }
  | _ => none }
def FnExactPutWrongFalsely : Prop := fnExactPutRow.holds Try.pinned (OpenSpec.ofChange fnExactPutWrong)

/-- 'laws.FnExactPlay': WHATEVER THE INPUT: true; the input reads as it did. -/
def fnExactPlaySpec : ChangeSpec := { name := "fnExactPlay", fn := fun _ => fun
  | [d] => { results := [.lit (.bool true)], args := [d] }
  | _ => none }
def fnExactPlayRow : OpenClaim := { program := "ytbgdmbjipladoaa", sum := "62d434d0001bb4adab6f4d76563681aa11faf20f2d692e8fd1ebdc9194489689", func := "loop.example/g00052/laws.FnExactPlay", spec := "fnExactPlay", apart := false }
def FnExactPlaySaid : Prop := fnExactPlayRow.holds Try.pinned (OpenSpec.ofChange fnExactPlaySpec)

/-- ITS FALSE NEIGHBOUR: 'it returns false'. Refute it at one input. -/
def fnExactPlayWrong : ChangeSpec := { name := "fnExactPlay", fn := fun _ => fun
  | [d] => { results := [.lit (.bool false)], args := [d] }
  | _ => none }
def FnExactPlayWrongFalsely : Prop := fnExactPlayRow.holds Try.pinned (OpenSpec.ofChange fnExactPlayWrong)

/-- 'laws.FnExactHear12': WHATEVER THE INPUT: true; the input reads as it did. -/
def fnExactHear12Spec : ChangeSpec := { name := "fnExactHear12", fn := fun _ => fun
  | [d1, d2, d3] => { results := [.lit (.bool true)], args := [d1, d2, d3] }
  | _ => none }
def fnExactHear12Row : OpenClaim := { program := "ytbgdmbjipladoaa", sum := "62d434d0001bb4adab6f4d76563681aa11faf20f2d692e8fd1ebdc9194489689", func := "loop.example/g00052/laws.FnExactHear12", spec := "fnExactHear12", inPlace := ["slices.overlaps[loop.example/g00052/impl.Packet]"], unfollowed := true, recurses := true, apart := false }
def FnExactHear12Said : Prop := fnExactHear12Row.holds Try.pinned (OpenSpec.ofChange fnExactHear12Spec)

/-- ITS FALSE NEIGHBOUR: 'it returns false'. Refute it at one input. -/
def fnExactHear12Wrong : ChangeSpec := { name := "fnExactHear12", fn := fun _ => fun
  | [d1, d2, d3] => { results := [.lit (.bool false)], args := [d1, d2, d3] }
  | _ => none }
def FnExactHear12WrongFalsely : Prop := fnExactHear12Row.holds Try.pinned (OpenSpec.ofChange fnExactHear12Wrong)

/-- 'laws.FnTwice': WHATEVER THE INPUT: true; the input reads as it did. -/
def fnTwiceSpec : ChangeSpec := { name := "fnTwice", fn := fun _ => fun
  | [d] => { results := [.lit (.bool true)], args := [d] }
  | _ => none }
def fnTwiceRow : OpenClaim := { program := "ytbgdmbjipladoaa", sum := "62d434d0001bb4adab6f4d76563681aa11faf20f2d692e8fd1ebdc9194489689", func := "loop.example/g00052/laws.FnTwice", spec := "fnTwice", inPlace := ["slices.overlaps[loop.example/g00052/impl.Packet]"], unfollowed := true, recurses := true, apart := false }
def FnTwiceSaid : Prop := fnTwiceRow.holds Try.pinned (OpenSpec.ofChange fnTwiceSpec)

/-- ITS FALSE NEIGHBOUR: 'it returns false'. Refute it at one input. -/
def fnTwiceWrong : ChangeSpec := { name := "fnTwice", fn := fun _ => fun
  | [d] => { results := [.lit (.bool false)], args := [d] }
  | _ => none }
def FnTwiceWrongFalsely : Prop := fnTwiceRow.holds Try.pinned (OpenSpec.ofChange fnTwiceWrong)

/-- 'laws.FnInOrder': WHATEVER THE INPUT: true; the input reads as it did. -/
def fnInOrderSpec : ChangeSpec := { name := "fnInOrder", fn := fun _ => fun
  | [d] => { results := [.lit (.bool true)], args := [d] }
  | _ => none }
def fnInOrderRow : OpenClaim := { program := "ytbgdmbjipladoaa", sum := "62d434d0001bb4adab6f4d76563681aa11faf20f2d692e8fd1ebdc9194489689", func := "loop.example/g00052/laws.FnInOrder", spec := "fnInOrder", inPlace := ["slices.overlaps[loop.example/g00052/impl.Packet]"], unfollowed := true, recurses := true, apart := false }
def FnInOrderSaid : Prop := fnInOrderRow.holds Try.pinned (OpenSpec.ofChange fnInOrderSpec)

/-- ITS FALSE NEIGHBOUR: 'it returns false'. Refute it at one input. -/
def fnInOrderWrong : ChangeSpec := { name := "fnInOrder", fn := fun _ => fun
  | [d] => { results := [.lit (.bool false)], args := [d] }
  | _ => none }
def FnInOrderWrongFalsely : Prop := fnInOrderRow.holds Try.pinned (OpenSpec.ofChange fnInOrderWrong)

/-- 'laws.FnFaded': WHATEVER THE INPUT: true; the input reads as it did. -/
def fnFadedSpec : ChangeSpec := { name := "fnFaded", fn := fun _ => fun
  | [d] => { results := [.lit (.bool true)], args := [d] }
  | _ => none }
def fnFadedRow : OpenClaim := { program := "ytbgdmbjipladoaa", sum := "62d434d0001bb4adab6f4d76563681aa11faf20f2d692e8fd1ebdc9194489689", func := "loop.example/g00052/laws.FnFaded", spec := "fnFaded", apart := false }
def FnFadedSaid : Prop := fnFadedRow.holds Try.pinned (OpenSpec.ofChange fnFadedSpec)

/-- ITS FALSE NEIGHBOUR: 'it returns false'. Refute it at one input. -/
def fnFadedWrong : ChangeSpec := { name := "fnFaded", fn := fun _ => fun
  | [d] => { results := [.lit (.bool false)], args := [d] }
  | _ => none }
def FnFadedWrongFalsely : Prop := fnFadedRow.holds Try.pinned (OpenSpec.ofChange fnFadedWrong)

/- THE SECOND FORM. 'bulk': how many values and letters a reading holds, each counted each time it is reached (what is shared counts as often as it is met; a slice's spare places count too). A statement '..UptoSaid' is the law's where the arguments, and the package variables that the reading takes, are together of bulk at most 1048576: NARROWER than '..Said'. Prove '..Said' where nothing that the law and all that it calls make is longer than what came in: it says more and counts as full. Else prove '..UptoSaid'. A law counts once. -/
mutual
def uptoBulk {H : Type} : DataW H → Nat
  | .lit (.string bytes) => bytes.length + 1
  | .lit _ => 1
  | .nil => 1
  | .ptr d => uptoBulk d + 1
  | .slice elems spare => uptoBulkAll elems + uptoBulkAll spare + 1
  | .agg parts => uptoBulkAll parts + 1
  | .iface _ d => uptoBulk d + 1
  | .map entries => uptoBulkEntries entries + 1
  | .held _ => 1
def uptoBulkAll {H : Type} : List (DataW H) → Nat
  | [] => 0
  | d :: r => uptoBulk d + uptoBulkAll r
def uptoBulkEntries {H : Type} : List (Lit × DataW H) → Nat
  | [] => 0
  | x :: r => uptoBulkEntry x + uptoBulkEntries r
def uptoBulkEntry {H : Type} : Lit × DataW H → Nat
  | (.string bytes, d) => bytes.length + uptoBulk d + 1
  | (_, d) => uptoBulk d + 1
 end
def uptoSmall : (H : Type) → List (DataW H) → Bool := fun _ ds => decide (uptoBulkAll ds ≤ 1048576)
def OpenSpec.upto (s : _root_.Go.ChangeSpec) : _root_.Go.OpenSpec := { _root_.Go.OpenSpec.ofChange s with cond := some uptoSmall }

/-- 'laws.FnExactSteady', WHERE WHAT IT READS IS OF BULK AT MOST 1048576: true; the input reads as it did. -/
def fnExactSteadyUptoRow : OpenClaim := { program := "ytbgdmbjipladoaa", sum := "62d434d0001bb4adab6f4d76563681aa11faf20f2d692e8fd1ebdc9194489689", func := "loop.example/g00052/laws.FnExactSteady", spec := "fnExactSteady", apart := false, narrowed := true }
def FnExactSteadyUptoSaid : Prop := fnExactSteadyUptoRow.holds Try.pinned (OpenSpec.upto fnExactSteadySpec)

/-- 'laws.FnExactPlayerOk', WHERE WHAT IT READS IS OF BULK AT MOST 1048576: true; the input reads as it did. -/
def fnExactPlayerOkUptoRow : OpenClaim := { program := "ytbgdmbjipladoaa", sum := "62d434d0001bb4adab6f4d76563681aa11faf20f2d692e8fd1ebdc9194489689", func := "loop.example/g00052/laws.FnExactPlayerOk", spec := "fnExactPlayerOk", apart := false, narrowed := true }
def FnExactPlayerOkUptoSaid : Prop := fnExactPlayerOkUptoRow.holds Try.pinned (OpenSpec.upto fnExactPlayerOkSpec)

/-- 'laws.FnExactReady', WHERE WHAT IT READS IS OF BULK AT MOST 1048576: true; the input reads as it did. -/
def fnExactReadyUptoRow : OpenClaim := { program := "ytbgdmbjipladoaa", sum := "62d434d0001bb4adab6f4d76563681aa11faf20f2d692e8fd1ebdc9194489689", func := "loop.example/g00052/laws.FnExactReady", spec := "fnExactReady", apart := false, narrowed := true }
def FnExactReadyUptoSaid : Prop := fnExactReadyUptoRow.holds Try.pinned (OpenSpec.upto fnExactReadySpec)

/-- 'laws.FnExactPut', WHERE WHAT IT READS IS OF BULK AT MOST 1048576: true; the input reads as it did. -/
def fnExactPutUptoRow : OpenClaim := { program := "ytbgdmbjipladoaa", sum := "62d434d0001bb4adab6f4d76563681aa11faf20f2d692e8fd1ebdc9194489689", func := "loop.example/g00052/laws.FnExactPut", spec := "fnExactPut", inPlace := ["slices.overlaps[loop.example/g00052/impl.Packet]"], unfollowed := true, recurses := true, apart := false, narrowed := true }
def FnExactPutUptoSaid : Prop := fnExactPutUptoRow.holds Try.pinned (OpenSpec.upto fnExactPutSpec)

/-- 'laws.FnExactPlay', WHERE WHAT IT READS IS OF BULK AT MOST 1048576: true; the input reads as it did. -/
def fnExactPlayUptoRow : OpenClaim := { program := "ytbgdmbjipladoaa", sum := "62d434d0001bb4adab6f4d76563681aa11faf20f2d692e8fd1ebdc9194489689", func := "loop.example/g00052/laws.FnExactPlay", spec := "fnExactPlay", apart := false, narrowed := true }
def FnExactPlayUptoSaid : Prop := fnExactPlayUptoRow.holds Try.pinned (OpenSpec.upto fnExactPlaySpec)

/-- 'laws.FnExactHear12', WHERE WHAT IT READS IS OF BULK AT MOST 1048576: true; the input reads as it did. -/
def fnExactHear12UptoRow : OpenClaim := { program := "ytbgdmbjipladoaa", sum := "62d434d0001bb4adab6f4d76563681aa11faf20f2d692e8fd1ebdc9194489689", func := "loop.example/g00052/laws.FnExactHear12", spec := "fnExactHear12", inPlace := ["slices.overlaps[loop.example/g00052/impl.Packet]"], unfollowed := true, recurses := true, apart := false, narrowed := true }
def FnExactHear12UptoSaid : Prop := fnExactHear12UptoRow.holds Try.pinned (OpenSpec.upto fnExactHear12Spec)

/-- 'laws.FnTwice', WHERE WHAT IT READS IS OF BULK AT MOST 1048576: true; the input reads as it did. -/
def fnTwiceUptoRow : OpenClaim := { program := "ytbgdmbjipladoaa", sum := "62d434d0001bb4adab6f4d76563681aa11faf20f2d692e8fd1ebdc9194489689", func := "loop.example/g00052/laws.FnTwice", spec := "fnTwice", inPlace := ["slices.overlaps[loop.example/g00052/impl.Packet]"], unfollowed := true, recurses := true, apart := false, narrowed := true }
def FnTwiceUptoSaid : Prop := fnTwiceUptoRow.holds Try.pinned (OpenSpec.upto fnTwiceSpec)

/-- 'laws.FnInOrder', WHERE WHAT IT READS IS OF BULK AT MOST 1048576: true; the input reads as it did. -/
def fnInOrderUptoRow : OpenClaim := { program := "ytbgdmbjipladoaa", sum := "62d434d0001bb4adab6f4d76563681aa11faf20f2d692e8fd1ebdc9194489689", func := "loop.example/g00052/laws.FnInOrder", spec := "fnInOrder", inPlace := ["slices.overlaps[loop.example/g00052/impl.Packet]"], unfollowed := true, recurses := true, apart := false, narrowed := true }
def FnInOrderUptoSaid : Prop := fnInOrderUptoRow.holds Try.pinned (OpenSpec.upto fnInOrderSpec)

/-- 'laws.FnFaded', WHERE WHAT IT READS IS OF BULK AT MOST 1048576: true; the input reads as it did. -/
def fnFadedUptoRow : OpenClaim := { program := "ytbgdmbjipladoaa", sum := "62d434d0001bb4adab6f4d76563681aa11faf20f2d692e8fd1ebdc9194489689", func := "loop.example/g00052/laws.FnFaded", spec := "fnFaded", apart := false, narrowed := true }
def FnFadedUptoSaid : Prop := fnFadedUptoRow.holds Try.pinned (OpenSpec.upto fnFadedSpec)

end Rows
end Go.Proofs.Ytbgdmbjipladoaa
