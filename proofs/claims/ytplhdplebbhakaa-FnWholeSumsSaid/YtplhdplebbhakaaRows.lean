/-
  No cell of these rows narrows 'for every input' (looked for: loops, veiled, ifaces, maps, wideKeys, modest, calm, conditions, laid).
  DERIVED. THE GIVEN ROWS OF THIS SEAT. 9 by the template 'for every input the law returns true; each argument reads behind the call as it read before'; 0 by the template 'total and deterministic' (their statements: YtplhdplebbhakaaTotals.lean).
  GIVEN WITH THE SEED: the statements are not yours to turn. If you find one false, say at which input.
  Laid BY PROGRAM, IN A SANDBOX (cutbox-rows.mjs): the forced cells as the released guide's own fill.sh prints them over the translation 5ae3522fe6fdf8a9… (all of the seat's roots in one cut). By AI agents, Wed Nov 11 2026. No macro, syntax, notation, axiom, sorry.
-/
import Derived.Test.YtplhdplebbhakaaChecked
import GoSem.Claim
import GoSem.ClaimJoined
import GoSem.ClaimMapViews
import Derived.JoinedTies
import Derived.KernelRfl
namespace Go.Proofs.Ytplhdplebbhakaa
/- THE CELL 'sum', in the pinned program and in every row, IS THE sha256 OF THE DUMP (.gsa) THAT YtplhdplebbhakaaProg.lean LOADS. Nothing in Lean hashes anything: it is a label: what it is worth is what the hold of that sum in a sandbox is worth. -/
noncomputable def Try.pinned : Pinned := { name := "ytplhdplebbhakaa", sum := "5ae3522fe6fdf8a9a748a4f746044868eee52ca13b17217ee826558b3f0fb896", checked := Try.checked }
namespace Rows
def none {H : Type} : Left H := { results := [], args := [] }

/-- 'laws.FnExactSameSample': WHATEVER THE INPUT: true; the input reads as it did. -/
def fnExactSameSampleSpec : ChangeSpec := { name := "fnExactSameSample", fn := fun _ => fun
  | [d1, d2] => { results := [.lit (.bool true)], args := [d1, d2] }
  | _ => none }
def fnExactSameSampleRow : OpenClaim := { program := "ytplhdplebbhakaa", sum := "5ae3522fe6fdf8a9a748a4f746044868eee52ca13b17217ee826558b3f0fb896", func := "loop.example/g00052/laws.FnExactSameSample", spec := "fnExactSameSample", apart := false }
def FnExactSameSampleSaid : Prop := fnExactSameSampleRow.holds Try.pinned (OpenSpec.ofChange fnExactSameSampleSpec)

/-- ITS FALSE NEIGHBOUR: 'it returns false'. Refute it at one input. -/
def fnExactSameSampleWrong : ChangeSpec := { name := "fnExactSameSample", fn := fun _ => fun
  | [d1, d2] => { results := [.lit (.bool false)], args := [d1, d2] }
  | _ => none }
def FnExactSameSampleWrongFalsely : Prop := fnExactSameSampleRow.holds Try.pinned (OpenSpec.ofChange fnExactSameSampleWrong)

/-- 'laws.FnExactAddSample': WHATEVER THE INPUT: true; the input reads as it did. -/
def fnExactAddSampleSpec : ChangeSpec := { name := "fnExactAddSample", fn := fun _ => fun
  | [d1, d2] => { results := [.lit (.bool true)], args := [d1, d2] }
  | _ => none }
def fnExactAddSampleRow : OpenClaim := { program := "ytplhdplebbhakaa", sum := "5ae3522fe6fdf8a9a748a4f746044868eee52ca13b17217ee826558b3f0fb896", func := "loop.example/g00052/laws.FnExactAddSample", spec := "fnExactAddSample", apart := false }
def FnExactAddSampleSaid : Prop := fnExactAddSampleRow.holds Try.pinned (OpenSpec.ofChange fnExactAddSampleSpec)

/-- ITS FALSE NEIGHBOUR: 'it returns false'. Refute it at one input. -/
def fnExactAddSampleWrong : ChangeSpec := { name := "fnExactAddSample", fn := fun _ => fun
  | [d1, d2] => { results := [.lit (.bool false)], args := [d1, d2] }
  | _ => none }
def FnExactAddSampleWrongFalsely : Prop := fnExactAddSampleRow.holds Try.pinned (OpenSpec.ofChange fnExactAddSampleWrong)

/-- 'laws.FnExactNarrow': WHATEVER THE INPUT: true; the input reads as it did. -/
def fnExactNarrowSpec : ChangeSpec := { name := "fnExactNarrow", fn := fun _ => fun
  | [d] => { results := [.lit (.bool true)], args := [d] }
  | _ => none }
def fnExactNarrowRow : OpenClaim := { program := "ytplhdplebbhakaa", sum := "5ae3522fe6fdf8a9a748a4f746044868eee52ca13b17217ee826558b3f0fb896", func := "loop.example/g00052/laws.FnExactNarrow", spec := "fnExactNarrow", apart := false }
def FnExactNarrowSaid : Prop := fnExactNarrowRow.holds Try.pinned (OpenSpec.ofChange fnExactNarrowSpec)

/-- ITS FALSE NEIGHBOUR: 'it returns false'. Refute it at one input. -/
def fnExactNarrowWrong : ChangeSpec := { name := "fnExactNarrow", fn := fun _ => fun
  | [d] => { results := [.lit (.bool false)], args := [d] }
  | _ => none }
def FnExactNarrowWrongFalsely : Prop := fnExactNarrowRow.holds Try.pinned (OpenSpec.ofChange fnExactNarrowWrong)

/-- 'laws.FnExactSubSample': WHATEVER THE INPUT: true; the input reads as it did. -/
def fnExactSubSampleSpec : ChangeSpec := { name := "fnExactSubSample", fn := fun _ => fun
  | [d1, d2] => { results := [.lit (.bool true)], args := [d1, d2] }
  | _ => none }
def fnExactSubSampleRow : OpenClaim := { program := "ytplhdplebbhakaa", sum := "5ae3522fe6fdf8a9a748a4f746044868eee52ca13b17217ee826558b3f0fb896", func := "loop.example/g00052/laws.FnExactSubSample", spec := "fnExactSubSample", apart := false }
def FnExactSubSampleSaid : Prop := fnExactSubSampleRow.holds Try.pinned (OpenSpec.ofChange fnExactSubSampleSpec)

/-- ITS FALSE NEIGHBOUR: 'it returns false'. Refute it at one input. -/
def fnExactSubSampleWrong : ChangeSpec := { name := "fnExactSubSample", fn := fun _ => fun
  | [d1, d2] => { results := [.lit (.bool false)], args := [d1, d2] }
  | _ => none }
def FnExactSubSampleWrongFalsely : Prop := fnExactSubSampleRow.holds Try.pinned (OpenSpec.ofChange fnExactSubSampleWrong)

/-- 'laws.FnExactWiden': WHATEVER THE INPUT: true; the input reads as it did. -/
def fnExactWidenSpec : ChangeSpec := { name := "fnExactWiden", fn := fun _ => fun
  | [d] => { results := [.lit (.bool true)], args := [d] }
  | _ => none }
def fnExactWidenRow : OpenClaim := { program := "ytplhdplebbhakaa", sum := "5ae3522fe6fdf8a9a748a4f746044868eee52ca13b17217ee826558b3f0fb896", func := "loop.example/g00052/laws.FnExactWiden", spec := "fnExactWiden", apart := false }
def FnExactWidenSaid : Prop := fnExactWidenRow.holds Try.pinned (OpenSpec.ofChange fnExactWidenSpec)

/-- ITS FALSE NEIGHBOUR: 'it returns false'. Refute it at one input. -/
def fnExactWidenWrong : ChangeSpec := { name := "fnExactWiden", fn := fun _ => fun
  | [d] => { results := [.lit (.bool false)], args := [d] }
  | _ => none }
def FnExactWidenWrongFalsely : Prop := fnExactWidenRow.holds Try.pinned (OpenSpec.ofChange fnExactWidenWrong)

/-- 'laws.FnExactMulWide': WHATEVER THE INPUT: true; the input reads as it did. -/
def fnExactMulWideSpec : ChangeSpec := { name := "fnExactMulWide", fn := fun _ => fun
  | [d1, d2] => { results := [.lit (.bool true)], args := [d1, d2] }
  | _ => none }
def fnExactMulWideRow : OpenClaim := { program := "ytplhdplebbhakaa", sum := "5ae3522fe6fdf8a9a748a4f746044868eee52ca13b17217ee826558b3f0fb896", func := "loop.example/g00052/laws.FnExactMulWide", spec := "fnExactMulWide", apart := false }
def FnExactMulWideSaid : Prop := fnExactMulWideRow.holds Try.pinned (OpenSpec.ofChange fnExactMulWideSpec)

/-- ITS FALSE NEIGHBOUR: 'it returns false'. Refute it at one input. -/
def fnExactMulWideWrong : ChangeSpec := { name := "fnExactMulWide", fn := fun _ => fun
  | [d1, d2] => { results := [.lit (.bool false)], args := [d1, d2] }
  | _ => none }
def FnExactMulWideWrongFalsely : Prop := fnExactMulWideRow.holds Try.pinned (OpenSpec.ofChange fnExactMulWideWrong)

/-- 'laws.FnExactMulSample': WHATEVER THE INPUT: true; the input reads as it did. -/
def fnExactMulSampleSpec : ChangeSpec := { name := "fnExactMulSample", fn := fun _ => fun
  | [d1, d2] => { results := [.lit (.bool true)], args := [d1, d2] }
  | _ => none }
def fnExactMulSampleRow : OpenClaim := { program := "ytplhdplebbhakaa", sum := "5ae3522fe6fdf8a9a748a4f746044868eee52ca13b17217ee826558b3f0fb896", func := "loop.example/g00052/laws.FnExactMulSample", spec := "fnExactMulSample", apart := false }
def FnExactMulSampleSaid : Prop := fnExactMulSampleRow.holds Try.pinned (OpenSpec.ofChange fnExactMulSampleSpec)

/-- ITS FALSE NEIGHBOUR: 'it returns false'. Refute it at one input. -/
def fnExactMulSampleWrong : ChangeSpec := { name := "fnExactMulSample", fn := fun _ => fun
  | [d1, d2] => { results := [.lit (.bool false)], args := [d1, d2] }
  | _ => none }
def FnExactMulSampleWrongFalsely : Prop := fnExactMulSampleRow.holds Try.pinned (OpenSpec.ofChange fnExactMulSampleWrong)

/-- 'laws.FnQuotients': WHATEVER THE INPUT: true; the input reads as it did. -/
def fnQuotientsSpec : ChangeSpec := { name := "fnQuotients", fn := fun _ => fun
  | [d] => { results := [.lit (.bool true)], args := [d] }
  | _ => none }
def fnQuotientsRow : OpenClaim := { program := "ytplhdplebbhakaa", sum := "5ae3522fe6fdf8a9a748a4f746044868eee52ca13b17217ee826558b3f0fb896", func := "loop.example/g00052/laws.FnQuotients", spec := "fnQuotients", inPlace := ["math.Float64bits", "math.Float64frombits"], apart := false }
def FnQuotientsSaid : Prop := fnQuotientsRow.holds Try.pinned (OpenSpec.ofChange fnQuotientsSpec)

/-- ITS FALSE NEIGHBOUR: 'it returns false'. Refute it at one input. -/
def fnQuotientsWrong : ChangeSpec := { name := "fnQuotients", fn := fun _ => fun
  | [d] => { results := [.lit (.bool false)], args := [d] }
  | _ => none }
def FnQuotientsWrongFalsely : Prop := fnQuotientsRow.holds Try.pinned (OpenSpec.ofChange fnQuotientsWrong)

/-- 'laws.FnWholeSums': WHATEVER THE INPUT: true; the input reads as it did. -/
def fnWholeSumsSpec : ChangeSpec := { name := "fnWholeSums", fn := fun _ => fun
  | [d] => { results := [.lit (.bool true)], args := [d] }
  | _ => none }
def fnWholeSumsRow : OpenClaim := { program := "ytplhdplebbhakaa", sum := "5ae3522fe6fdf8a9a748a4f746044868eee52ca13b17217ee826558b3f0fb896", func := "loop.example/g00052/laws.FnWholeSums", spec := "fnWholeSums", apart := false }
def FnWholeSumsSaid : Prop := fnWholeSumsRow.holds Try.pinned (OpenSpec.ofChange fnWholeSumsSpec)

/-- ITS FALSE NEIGHBOUR: 'it returns false'. Refute it at one input. -/
def fnWholeSumsWrong : ChangeSpec := { name := "fnWholeSums", fn := fun _ => fun
  | [d] => { results := [.lit (.bool false)], args := [d] }
  | _ => none }
def FnWholeSumsWrongFalsely : Prop := fnWholeSumsRow.holds Try.pinned (OpenSpec.ofChange fnWholeSumsWrong)

/- THE SECOND FORM. 'bulk': how many values and letters a reading holds, each counted each time it is reached (what is shared counts as often as it is met; a slice's spare places count too). A statement '..UptoSaid' is the law's where the arguments, and the package variables that the reading takes, are together of bulk at most 1048576: NARROWER than '..Said'. Prove '..Said' where nothing that the law and all that it calls make is longer than what came in: it says more and counts as full. Else prove '..UptoSaid'. A law counts once. -/
mutual
def uptoBulk {H : Type} : DataW H → Nat
  | .lit (.string bytes) => bytes.length + 1
  | .lit _ => 1
  | .nil => 1
  | .ptr d => uptoBulk d + 1
  | .slice elems spare => uptoBulkAll elems + uptoBulkAll spare + 1
  | .agg parts => uptoBulkAll parts + 1
  | .iface _ d => uptoBulk d + 1
  | .map entries => uptoBulkEntries entries + 1
  | .held _ => 1
def uptoBulkAll {H : Type} : List (DataW H) → Nat
  | [] => 0
  | d :: r => uptoBulk d + uptoBulkAll r
def uptoBulkEntries {H : Type} : List (Lit × DataW H) → Nat
  | [] => 0
  | x :: r => uptoBulkEntry x + uptoBulkEntries r
def uptoBulkEntry {H : Type} : Lit × DataW H → Nat
  | (.string bytes, d) => bytes.length + uptoBulk d + 1
  | (_, d) => uptoBulk d + 1
 end
def uptoSmall : (H : Type) → List (DataW H) → Bool := fun _ ds => decide (uptoBulkAll ds ≤ 1048576)
def OpenSpec.upto (s : _root_.Go.ChangeSpec) : _root_.Go.OpenSpec := { _root_.Go.OpenSpec.ofChange s with cond := some uptoSmall }

/-- 'laws.FnExactSameSample', WHERE WHAT IT READS IS OF BULK AT MOST 1048576: true; the input reads as it did. -/
def fnExactSameSampleUptoRow : OpenClaim := { program := "ytplhdplebbhakaa", sum := "5ae3522fe6fdf8a9a748a4f746044868eee52ca13b17217ee826558b3f0fb896", func := "loop.example/g00052/laws.FnExactSameSample", spec := "fnExactSameSample", apart := false, narrowed := true }
def FnExactSameSampleUptoSaid : Prop := fnExactSameSampleUptoRow.holds Try.pinned (OpenSpec.upto fnExactSameSampleSpec)

/-- 'laws.FnExactAddSample', WHERE WHAT IT READS IS OF BULK AT MOST 1048576: true; the input reads as it did. -/
def fnExactAddSampleUptoRow : OpenClaim := { program := "ytplhdplebbhakaa", sum := "5ae3522fe6fdf8a9a748a4f746044868eee52ca13b17217ee826558b3f0fb896", func := "loop.example/g00052/laws.FnExactAddSample", spec := "fnExactAddSample", apart := false, narrowed := true }
def FnExactAddSampleUptoSaid : Prop := fnExactAddSampleUptoRow.holds Try.pinned (OpenSpec.upto fnExactAddSampleSpec)

/-- 'laws.FnExactNarrow', WHERE WHAT IT READS IS OF BULK AT MOST 1048576: true; the input reads as it did. -/
def fnExactNarrowUptoRow : OpenClaim := { program := "ytplhdplebbhakaa", sum := "5ae3522fe6fdf8a9a748a4f746044868eee52ca13b17217ee826558b3f0fb896", func := "loop.example/g00052/laws.FnExactNarrow", spec := "fnExactNarrow", apart := false, narrowed := true }
def FnExactNarrowUptoSaid : Prop := fnExactNarrowUptoRow.holds Try.pinned (OpenSpec.upto fnExactNarrowSpec)

/-- 'laws.FnExactSubSample', WHERE WHAT IT READS IS OF BULK AT MOST 1048576: true; the input reads as it did. -/
def fnExactSubSampleUptoRow : OpenClaim := { program := "ytplhdplebbhakaa", sum := "5ae3522fe6fdf8a9a748a4f746044868eee52ca13b17217ee826558b3f0fb896", func := "loop.example/g00052/laws.FnExactSubSample", spec := "fnExactSubSample", apart := false, narrowed := true }
def FnExactSubSampleUptoSaid : Prop := fnExactSubSampleUptoRow.holds Try.pinned (OpenSpec.upto fnExactSubSampleSpec)

/-- 'laws.FnExactWiden', WHERE WHAT IT READS IS OF BULK AT MOST 1048576: true; the input reads as it did. -/
def fnExactWidenUptoRow : OpenClaim := { program := "ytplhdplebbhakaa", sum := "5ae3522fe6fdf8a9a748a4f746044868eee52ca13b17217ee826558b3f0fb896", func := "loop.example/g00052/laws.FnExactWiden", spec := "fnExactWiden", apart := false, narrowed := true }
def FnExactWidenUptoSaid : Prop := fnExactWidenUptoRow.holds Try.pinned (OpenSpec.upto fnExactWidenSpec)

/-- 'laws.FnExactMulWide', WHERE WHAT IT READS IS OF BULK AT MOST 1048576: true; the input reads as it did. -/
def fnExactMulWideUptoRow : OpenClaim := { program := "ytplhdplebbhakaa", sum := "5ae3522fe6fdf8a9a748a4f746044868eee52ca13b17217ee826558b3f0fb896", func := "loop.example/g00052/laws.FnExactMulWide", spec := "fnExactMulWide", apart := false, narrowed := true }
def FnExactMulWideUptoSaid : Prop := fnExactMulWideUptoRow.holds Try.pinned (OpenSpec.upto fnExactMulWideSpec)

/-- 'laws.FnExactMulSample', WHERE WHAT IT READS IS OF BULK AT MOST 1048576: true; the input reads as it did. -/
def fnExactMulSampleUptoRow : OpenClaim := { program := "ytplhdplebbhakaa", sum := "5ae3522fe6fdf8a9a748a4f746044868eee52ca13b17217ee826558b3f0fb896", func := "loop.example/g00052/laws.FnExactMulSample", spec := "fnExactMulSample", apart := false, narrowed := true }
def FnExactMulSampleUptoSaid : Prop := fnExactMulSampleUptoRow.holds Try.pinned (OpenSpec.upto fnExactMulSampleSpec)

/-- 'laws.FnQuotients', WHERE WHAT IT READS IS OF BULK AT MOST 1048576: true; the input reads as it did. -/
def fnQuotientsUptoRow : OpenClaim := { program := "ytplhdplebbhakaa", sum := "5ae3522fe6fdf8a9a748a4f746044868eee52ca13b17217ee826558b3f0fb896", func := "loop.example/g00052/laws.FnQuotients", spec := "fnQuotients", inPlace := ["math.Float64bits", "math.Float64frombits"], apart := false, narrowed := true }
def FnQuotientsUptoSaid : Prop := fnQuotientsUptoRow.holds Try.pinned (OpenSpec.upto fnQuotientsSpec)

/-- 'laws.FnWholeSums', WHERE WHAT IT READS IS OF BULK AT MOST 1048576: true; the input reads as it did. -/
def fnWholeSumsUptoRow : OpenClaim := { program := "ytplhdplebbhakaa", sum := "5ae3522fe6fdf8a9a748a4f746044868eee52ca13b17217ee826558b3f0fb896", func := "loop.example/g00052/laws.FnWholeSums", spec := "fnWholeSums", apart := false, narrowed := true }
def FnWholeSumsUptoSaid : Prop := fnWholeSumsUptoRow.holds Try.pinned (OpenSpec.upto fnWholeSumsSpec)

end Rows
end Go.Proofs.Ytplhdplebbhakaa
