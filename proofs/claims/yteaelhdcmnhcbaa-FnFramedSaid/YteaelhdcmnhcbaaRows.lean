/-
  No cell of these rows narrows 'for every input' (looked for: loops, veiled, ifaces, maps, wideKeys, modest, calm, conditions, laid).
  DERIVED. THE GIVEN ROWS OF THIS SEAT. 11 by the template 'for every input the law returns true; each argument reads behind the call as it read before'; 0 by the template 'total and deterministic' (their statements: YteaelhdcmnhcbaaTotals.lean).
  GIVEN WITH THE SEED: the statements are not yours to turn. If you find one false, say at which input.
  Laid BY PROGRAM, IN A SANDBOX (cutbox-rows.mjs): the forced cells as the released guide's own fill.sh prints them over the translation e8d0658e7578efcb… (all of the seat's roots in one cut). By AI agents, Wed Nov 11 2026. No macro, syntax, notation, axiom, sorry.
-/
import Derived.Test.YteaelhdcmnhcbaaChecked
import GoSem.Claim
import GoSem.ClaimJoined
import GoSem.ClaimMapViews
import Derived.JoinedTies
import Derived.KernelRfl
namespace Go.Proofs.Yteaelhdcmnhcbaa
/- THE CELL 'sum', in the pinned program and in every row, IS THE sha256 OF THE DUMP (.gsa) THAT YteaelhdcmnhcbaaProg.lean LOADS. Nothing in Lean hashes anything: it is a label: what it is worth is what the hold of that sum in a sandbox is worth. -/
noncomputable def Try.pinned : Pinned := { name := "yteaelhdcmnhcbaa", sum := "e8d0658e7578efcb3864bf8b58cb0988023cc9cd8e734b3ea98bdc7ef3cd2f40", checked := Try.checked }
namespace Rows
def none {H : Type} : Left H := { results := [], args := [] }

/-- 'laws.FnExactStepSize': WHATEVER THE INPUT: true; the input reads as it did. -/
def fnExactStepSizeSpec : ChangeSpec := { name := "fnExactStepSize", fn := fun _ => fun
  | [d] => { results := [.lit (.bool true)], args := [d] }
  | _ => none }
def fnExactStepSizeRow : OpenClaim := { program := "yteaelhdcmnhcbaa", sum := "e8d0658e7578efcb3864bf8b58cb0988023cc9cd8e734b3ea98bdc7ef3cd2f40", func := "loop.example/g00052/laws.FnExactStepSize", spec := "fnExactStepSize", apart := false }
def FnExactStepSizeSaid : Prop := fnExactStepSizeRow.holds Try.pinned (OpenSpec.ofChange fnExactStepSizeSpec)

/-- ITS FALSE NEIGHBOUR: 'it returns false'. Refute it at one input. -/
def fnExactStepSizeWrong : ChangeSpec := { name := "fnExactStepSize", fn := fun _ => fun
  | [d] => { results := [.lit (.bool false)], args := [d] }
  | _ => none }
def FnExactStepSizeWrongFalsely : Prop := fnExactStepSizeRow.holds Try.pinned (OpenSpec.ofChange fnExactStepSizeWrong)

/-- 'laws.FnExactFromLaw': WHATEVER THE INPUT: true; the input reads as it did. -/
def fnExactFromLawSpec : ChangeSpec := { name := "fnExactFromLaw", fn := fun _ => fun
  | [d] => { results := [.lit (.bool true)], args := [d] }
  | _ => none }
def fnExactFromLawRow : OpenClaim := { program := "yteaelhdcmnhcbaa", sum := "e8d0658e7578efcb3864bf8b58cb0988023cc9cd8e734b3ea98bdc7ef3cd2f40", func := "loop.example/g00052/laws.FnExactFromLaw", spec := "fnExactFromLaw", apart := false }
def FnExactFromLawSaid : Prop := fnExactFromLawRow.holds Try.pinned (OpenSpec.ofChange fnExactFromLawSpec)

/-- ITS FALSE NEIGHBOUR: 'it returns false'. Refute it at one input. -/
def fnExactFromLawWrong : ChangeSpec := { name := "fnExactFromLaw", fn := fun _ => fun
  | [d] => { results := [.lit (.bool false)], args := [d] }
  | _ => none }
def FnExactFromLawWrongFalsely : Prop := fnExactFromLawRow.holds Try.pinned (OpenSpec.ofChange fnExactFromLawWrong)

/-- 'laws.FnExactVoiceOk': WHATEVER THE INPUT: true; the input reads as it did. -/
def fnExactVoiceOkSpec : ChangeSpec := { name := "fnExactVoiceOk", fn := fun _ => fun
  | [d] => { results := [.lit (.bool true)], args := [d] }
  | _ => none }
def fnExactVoiceOkRow : OpenClaim := { program := "yteaelhdcmnhcbaa", sum := "e8d0658e7578efcb3864bf8b58cb0988023cc9cd8e734b3ea98bdc7ef3cd2f40", func := "loop.example/g00052/laws.FnExactVoiceOk", spec := "fnExactVoiceOk", apart := false }
def FnExactVoiceOkSaid : Prop := fnExactVoiceOkRow.holds Try.pinned (OpenSpec.ofChange fnExactVoiceOkSpec)

/-- ITS FALSE NEIGHBOUR: 'it returns false'. Refute it at one input. -/
def fnExactVoiceOkWrong : ChangeSpec := { name := "fnExactVoiceOk", fn := fun _ => fun
  | [d] => { results := [.lit (.bool false)], args := [d] }
  | _ => none }
def FnExactVoiceOkWrongFalsely : Prop := fnExactVoiceOkRow.holds Try.pinned (OpenSpec.ofChange fnExactVoiceOkWrong)

/-- 'laws.FnExactToLaw': WHATEVER THE INPUT: true; the input reads as it did. -/
def fnExactToLawSpec : ChangeSpec := { name := "fnExactToLaw", fn := fun _ => fun
  | [d] => { results := [.lit (.bool true)], args := [d] }
  | _ => none }
def fnExactToLawRow : OpenClaim := { program := "yteaelhdcmnhcbaa", sum := "e8d0658e7578efcb3864bf8b58cb0988023cc9cd8e734b3ea98bdc7ef3cd2f40", func := "loop.example/g00052/laws.FnExactToLaw", spec := "fnExactToLaw", apart := false }
def FnExactToLawSaid : Prop := fnExactToLawRow.holds Try.pinned (OpenSpec.ofChange fnExactToLawSpec)

/-- ITS FALSE NEIGHBOUR: 'it returns false'. Refute it at one input. -/
def fnExactToLawWrong : ChangeSpec := { name := "fnExactToLaw", fn := fun _ => fun
  | [d] => { results := [.lit (.bool false)], args := [d] }
  | _ => none }
def FnExactToLawWrongFalsely : Prop := fnExactToLawRow.holds Try.pinned (OpenSpec.ofChange fnExactToLawWrong)

/-- 'laws.FnLaw': WHATEVER THE INPUT: true; the input reads as it did. -/
def fnLawSpec : ChangeSpec := { name := "fnLaw", fn := fun _ => fun
  | [d] => { results := [.lit (.bool true)], args := [d] }
  | _ => none }
def fnLawRow : OpenClaim := { program := "yteaelhdcmnhcbaa", sum := "e8d0658e7578efcb3864bf8b58cb0988023cc9cd8e734b3ea98bdc7ef3cd2f40", func := "loop.example/g00052/laws.FnLaw", spec := "fnLaw", apart := false }
def FnLawSaid : Prop := fnLawRow.holds Try.pinned (OpenSpec.ofChange fnLawSpec)

/-- ITS FALSE NEIGHBOUR: 'it returns false'. Refute it at one input. -/
def fnLawWrong : ChangeSpec := { name := "fnLaw", fn := fun _ => fun
  | [d] => { results := [.lit (.bool false)], args := [d] }
  | _ => none }
def FnLawWrongFalsely : Prop := fnLawRow.holds Try.pinned (OpenSpec.ofChange fnLawWrong)

/-- 'laws.FnExactExpand': WHATEVER THE INPUT: true; the input reads as it did. -/
def fnExactExpandSpec : ChangeSpec := { name := "fnExactExpand", fn := fun _ => fun
  | [d1, d2] => { results := [.lit (.bool true)], args := [d1, d2] }
  | _ => none }
def fnExactExpandRow : OpenClaim := { program := "yteaelhdcmnhcbaa", sum := "e8d0658e7578efcb3864bf8b58cb0988023cc9cd8e734b3ea98bdc7ef3cd2f40", func := "loop.example/g00052/laws.FnExactExpand", spec := "fnExactExpand", apart := false }
def FnExactExpandSaid : Prop := fnExactExpandRow.holds Try.pinned (OpenSpec.ofChange fnExactExpandSpec)

/-- ITS FALSE NEIGHBOUR: 'it returns false'. Refute it at one input. -/
def fnExactExpandWrong : ChangeSpec := { name := "fnExactExpand", fn := fun _ => fun
  | [d1, d2] => { results := [.lit (.bool false)], args := [d1, d2] }
  | _ => none }
def FnExactExpandWrongFalsely : Prop := fnExactExpandRow.holds Try.pinned (OpenSpec.ofChange fnExactExpandWrong)

/-- 'laws.FnExactOfFrame': WHATEVER THE INPUT: true; the input reads as it did. -/
def fnExactOfFrameSpec : ChangeSpec := { name := "fnExactOfFrame", fn := fun _ => fun
  | [d1, d2] => { results := [.lit (.bool true)], args := [d1, d2] }
  | _ => none }
def fnExactOfFrameRow : OpenClaim := { program := "yteaelhdcmnhcbaa", sum := "e8d0658e7578efcb3864bf8b58cb0988023cc9cd8e734b3ea98bdc7ef3cd2f40", func := "loop.example/g00052/laws.FnExactOfFrame", spec := "fnExactOfFrame", apart := false }
def FnExactOfFrameSaid : Prop := fnExactOfFrameRow.holds Try.pinned (OpenSpec.ofChange fnExactOfFrameSpec)

/-- ITS FALSE NEIGHBOUR: 'it returns false'. Refute it at one input. -/
def fnExactOfFrameWrong : ChangeSpec := { name := "fnExactOfFrame", fn := fun _ => fun
  | [d1, d2] => { results := [.lit (.bool false)], args := [d1, d2] }
  | _ => none }
def FnExactOfFrameWrongFalsely : Prop := fnExactOfFrameRow.holds Try.pinned (OpenSpec.ofChange fnExactOfFrameWrong)

/-- 'laws.FnExactSqueeze': WHATEVER THE INPUT: true; the input reads as it did. -/
def fnExactSqueezeSpec : ChangeSpec := { name := "fnExactSqueeze", fn := fun _ => fun
  | [d1, d2] => { results := [.lit (.bool true)], args := [d1, d2] }
  | _ => none }
def fnExactSqueezeRow : OpenClaim := { program := "yteaelhdcmnhcbaa", sum := "e8d0658e7578efcb3864bf8b58cb0988023cc9cd8e734b3ea98bdc7ef3cd2f40", func := "loop.example/g00052/laws.FnExactSqueeze", spec := "fnExactSqueeze", apart := false }
def FnExactSqueezeSaid : Prop := fnExactSqueezeRow.holds Try.pinned (OpenSpec.ofChange fnExactSqueezeSpec)

/-- ITS FALSE NEIGHBOUR: 'it returns false'. Refute it at one input. -/
def fnExactSqueezeWrong : ChangeSpec := { name := "fnExactSqueeze", fn := fun _ => fun
  | [d1, d2] => { results := [.lit (.bool false)], args := [d1, d2] }
  | _ => none }
def FnExactSqueezeWrongFalsely : Prop := fnExactSqueezeRow.holds Try.pinned (OpenSpec.ofChange fnExactSqueezeWrong)

/-- 'laws.FnExactFrameOf': WHATEVER THE INPUT: true; the input reads as it did. -/
def fnExactFrameOfSpec : ChangeSpec := { name := "fnExactFrameOf", fn := fun _ => fun
  | [d1, d2] => { results := [.lit (.bool true)], args := [d1, d2] }
  | _ => none }
def fnExactFrameOfRow : OpenClaim := { program := "yteaelhdcmnhcbaa", sum := "e8d0658e7578efcb3864bf8b58cb0988023cc9cd8e734b3ea98bdc7ef3cd2f40", func := "loop.example/g00052/laws.FnExactFrameOf", spec := "fnExactFrameOf", apart := false }
def FnExactFrameOfSaid : Prop := fnExactFrameOfRow.holds Try.pinned (OpenSpec.ofChange fnExactFrameOfSpec)

/-- ITS FALSE NEIGHBOUR: 'it returns false'. Refute it at one input. -/
def fnExactFrameOfWrong : ChangeSpec := { name := "fnExactFrameOf", fn := fun _ => fun
  | [d1, d2] => { results := [.lit (.bool false)], args := [d1, d2] }
  | _ => none }
def FnExactFrameOfWrongFalsely : Prop := fnExactFrameOfRow.holds Try.pinned (OpenSpec.ofChange fnExactFrameOfWrong)

/-- 'laws.FnVoiceBack': WHATEVER THE INPUT: true; the input reads as it did. -/
def fnVoiceBackSpec : ChangeSpec := { name := "fnVoiceBack", fn := fun _ => fun
  | [d] => { results := [.lit (.bool true)], args := [d] }
  | _ => none }
def fnVoiceBackRow : OpenClaim := { program := "yteaelhdcmnhcbaa", sum := "e8d0658e7578efcb3864bf8b58cb0988023cc9cd8e734b3ea98bdc7ef3cd2f40", func := "loop.example/g00052/laws.FnVoiceBack", spec := "fnVoiceBack", apart := false }
def FnVoiceBackSaid : Prop := fnVoiceBackRow.holds Try.pinned (OpenSpec.ofChange fnVoiceBackSpec)

/-- ITS FALSE NEIGHBOUR: 'it returns false'. Refute it at one input. -/
def fnVoiceBackWrong : ChangeSpec := { name := "fnVoiceBack", fn := fun _ => fun
  | [d] => { results := [.lit (.bool false)], args := [d] }
  | _ => none }
def FnVoiceBackWrongFalsely : Prop := fnVoiceBackRow.holds Try.pinned (OpenSpec.ofChange fnVoiceBackWrong)

/-- 'laws.FnFramed': WHATEVER THE INPUT: true; the input reads as it did. -/
def fnFramedSpec : ChangeSpec := { name := "fnFramed", fn := fun _ => fun
  | [d] => { results := [.lit (.bool true)], args := [d] }
  | _ => none }
def fnFramedRow : OpenClaim := { program := "yteaelhdcmnhcbaa", sum := "e8d0658e7578efcb3864bf8b58cb0988023cc9cd8e734b3ea98bdc7ef3cd2f40", func := "loop.example/g00052/laws.FnFramed", spec := "fnFramed", apart := false }
def FnFramedSaid : Prop := fnFramedRow.holds Try.pinned (OpenSpec.ofChange fnFramedSpec)

/-- ITS FALSE NEIGHBOUR: 'it returns false'. Refute it at one input. -/
def fnFramedWrong : ChangeSpec := { name := "fnFramed", fn := fun _ => fun
  | [d] => { results := [.lit (.bool false)], args := [d] }
  | _ => none }
def FnFramedWrongFalsely : Prop := fnFramedRow.holds Try.pinned (OpenSpec.ofChange fnFramedWrong)

/- THE SECOND FORM. 'bulk': how many values and letters a reading holds, each counted each time it is reached (what is shared counts as often as it is met; a slice's spare places count too). A statement '..UptoSaid' is the law's where the arguments, and the package variables that the reading takes, are together of bulk at most 1048576: NARROWER than '..Said'. Prove '..Said' where nothing that the law and all that it calls make is longer than what came in: it says more and counts as full. Else prove '..UptoSaid'. A law counts once. -/
mutual
def uptoBulk {H : Type} : DataW H → Nat
  | .lit (.string bytes) => bytes.length + 1
  | .lit _ => 1
  | .nil => 1
  | .ptr d => uptoBulk d + 1
  | .slice elems spare => uptoBulkAll elems + uptoBulkAll spare + 1
  | .agg parts => uptoBulkAll parts + 1
  | .iface _ d => uptoBulk d + 1
  | .map entries => uptoBulkEntries entries + 1
  | .held _ => 1
def uptoBulkAll {H : Type} : List (DataW H) → Nat
  | [] => 0
  | d :: r => uptoBulk d + uptoBulkAll r
def uptoBulkEntries {H : Type} : List (Lit × DataW H) → Nat
  | [] => 0
  | x :: r => uptoBulkEntry x + uptoBulkEntries r
def uptoBulkEntry {H : Type} : Lit × DataW H → Nat
  | (.string bytes, d) => bytes.length + uptoBulk d + 1
  | (_, d) => uptoBulk d + 1
 end
def uptoSmall : (H : Type) → List (DataW H) → Bool := fun _ ds => decide (uptoBulkAll ds ≤ 1048576)
def OpenSpec.upto (s : _root_.Go.ChangeSpec) : _root_.Go.OpenSpec := { _root_.Go.OpenSpec.ofChange s with cond := some uptoSmall }

/-- 'laws.FnExactStepSize', WHERE WHAT IT READS IS OF BULK AT MOST 1048576: true; the input reads as it did. -/
def fnExactStepSizeUptoRow : OpenClaim := { program := "yteaelhdcmnhcbaa", sum := "e8d0658e7578efcb3864bf8b58cb0988023cc9cd8e734b3ea98bdc7ef3cd2f40", func := "loop.example/g00052/laws.FnExactStepSize", spec := "fnExactStepSize", apart := false, narrowed := true }
def FnExactStepSizeUptoSaid : Prop := fnExactStepSizeUptoRow.holds Try.pinned (OpenSpec.upto fnExactStepSizeSpec)

/-- 'laws.FnExactFromLaw', WHERE WHAT IT READS IS OF BULK AT MOST 1048576: true; the input reads as it did. -/
def fnExactFromLawUptoRow : OpenClaim := { program := "yteaelhdcmnhcbaa", sum := "e8d0658e7578efcb3864bf8b58cb0988023cc9cd8e734b3ea98bdc7ef3cd2f40", func := "loop.example/g00052/laws.FnExactFromLaw", spec := "fnExactFromLaw", apart := false, narrowed := true }
def FnExactFromLawUptoSaid : Prop := fnExactFromLawUptoRow.holds Try.pinned (OpenSpec.upto fnExactFromLawSpec)

/-- 'laws.FnExactVoiceOk', WHERE WHAT IT READS IS OF BULK AT MOST 1048576: true; the input reads as it did. -/
def fnExactVoiceOkUptoRow : OpenClaim := { program := "yteaelhdcmnhcbaa", sum := "e8d0658e7578efcb3864bf8b58cb0988023cc9cd8e734b3ea98bdc7ef3cd2f40", func := "loop.example/g00052/laws.FnExactVoiceOk", spec := "fnExactVoiceOk", apart := false, narrowed := true }
def FnExactVoiceOkUptoSaid : Prop := fnExactVoiceOkUptoRow.holds Try.pinned (OpenSpec.upto fnExactVoiceOkSpec)

/-- 'laws.FnExactToLaw', WHERE WHAT IT READS IS OF BULK AT MOST 1048576: true; the input reads as it did. -/
def fnExactToLawUptoRow : OpenClaim := { program := "yteaelhdcmnhcbaa", sum := "e8d0658e7578efcb3864bf8b58cb0988023cc9cd8e734b3ea98bdc7ef3cd2f40", func := "loop.example/g00052/laws.FnExactToLaw", spec := "fnExactToLaw", apart := false, narrowed := true }
def FnExactToLawUptoSaid : Prop := fnExactToLawUptoRow.holds Try.pinned (OpenSpec.upto fnExactToLawSpec)

/-- 'laws.FnLaw', WHERE WHAT IT READS IS OF BULK AT MOST 1048576: true; the input reads as it did. -/
def fnLawUptoRow : OpenClaim := { program := "yteaelhdcmnhcbaa", sum := "e8d0658e7578efcb3864bf8b58cb0988023cc9cd8e734b3ea98bdc7ef3cd2f40", func := "loop.example/g00052/laws.FnLaw", spec := "fnLaw", apart := false, narrowed := true }
def FnLawUptoSaid : Prop := fnLawUptoRow.holds Try.pinned (OpenSpec.upto fnLawSpec)

/-- 'laws.FnExactExpand', WHERE WHAT IT READS IS OF BULK AT MOST 1048576: true; the input reads as it did. -/
def fnExactExpandUptoRow : OpenClaim := { program := "yteaelhdcmnhcbaa", sum := "e8d0658e7578efcb3864bf8b58cb0988023cc9cd8e734b3ea98bdc7ef3cd2f40", func := "loop.example/g00052/laws.FnExactExpand", spec := "fnExactExpand", apart := false, narrowed := true }
def FnExactExpandUptoSaid : Prop := fnExactExpandUptoRow.holds Try.pinned (OpenSpec.upto fnExactExpandSpec)

/-- 'laws.FnExactOfFrame', WHERE WHAT IT READS IS OF BULK AT MOST 1048576: true; the input reads as it did. -/
def fnExactOfFrameUptoRow : OpenClaim := { program := "yteaelhdcmnhcbaa", sum := "e8d0658e7578efcb3864bf8b58cb0988023cc9cd8e734b3ea98bdc7ef3cd2f40", func := "loop.example/g00052/laws.FnExactOfFrame", spec := "fnExactOfFrame", apart := false, narrowed := true }
def FnExactOfFrameUptoSaid : Prop := fnExactOfFrameUptoRow.holds Try.pinned (OpenSpec.upto fnExactOfFrameSpec)

/-- 'laws.FnExactSqueeze', WHERE WHAT IT READS IS OF BULK AT MOST 1048576: true; the input reads as it did. -/
def fnExactSqueezeUptoRow : OpenClaim := { program := "yteaelhdcmnhcbaa", sum := "e8d0658e7578efcb3864bf8b58cb0988023cc9cd8e734b3ea98bdc7ef3cd2f40", func := "loop.example/g00052/laws.FnExactSqueeze", spec := "fnExactSqueeze", apart := false, narrowed := true }
def FnExactSqueezeUptoSaid : Prop := fnExactSqueezeUptoRow.holds Try.pinned (OpenSpec.upto fnExactSqueezeSpec)

/-- 'laws.FnExactFrameOf', WHERE WHAT IT READS IS OF BULK AT MOST 1048576: true; the input reads as it did. -/
def fnExactFrameOfUptoRow : OpenClaim := { program := "yteaelhdcmnhcbaa", sum := "e8d0658e7578efcb3864bf8b58cb0988023cc9cd8e734b3ea98bdc7ef3cd2f40", func := "loop.example/g00052/laws.FnExactFrameOf", spec := "fnExactFrameOf", apart := false, narrowed := true }
def FnExactFrameOfUptoSaid : Prop := fnExactFrameOfUptoRow.holds Try.pinned (OpenSpec.upto fnExactFrameOfSpec)

/-- 'laws.FnVoiceBack', WHERE WHAT IT READS IS OF BULK AT MOST 1048576: true; the input reads as it did. -/
def fnVoiceBackUptoRow : OpenClaim := { program := "yteaelhdcmnhcbaa", sum := "e8d0658e7578efcb3864bf8b58cb0988023cc9cd8e734b3ea98bdc7ef3cd2f40", func := "loop.example/g00052/laws.FnVoiceBack", spec := "fnVoiceBack", apart := false, narrowed := true }
def FnVoiceBackUptoSaid : Prop := fnVoiceBackUptoRow.holds Try.pinned (OpenSpec.upto fnVoiceBackSpec)

/-- 'laws.FnFramed', WHERE WHAT IT READS IS OF BULK AT MOST 1048576: true; the input reads as it did. -/
def fnFramedUptoRow : OpenClaim := { program := "yteaelhdcmnhcbaa", sum := "e8d0658e7578efcb3864bf8b58cb0988023cc9cd8e734b3ea98bdc7ef3cd2f40", func := "loop.example/g00052/laws.FnFramed", spec := "fnFramed", apart := false, narrowed := true }
def FnFramedUptoSaid : Prop := fnFramedUptoRow.holds Try.pinned (OpenSpec.upto fnFramedSpec)

end Rows
end Go.Proofs.Yteaelhdcmnhcbaa
