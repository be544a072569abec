/-
  No cell of these rows narrows 'for every input' (looked for: loops, veiled, ifaces, maps, wideKeys, modest, calm, conditions, laid).
  DERIVED. THE GIVEN ROWS OF THIS SEAT. 8 by the template 'for every input the law returns true; each argument reads behind the call as it read before'; 0 by the template 'total and deterministic' (their statements: YtodehmbgcncnhaaTotals.lean).
  GIVEN WITH THE SEED: the statements are not yours to turn. If you find one false, say at which input.
  Laid BY PROGRAM, IN A SANDBOX (cutbox-rows.mjs): the forced cells as the released guide's own fill.sh prints them over the translation 0d1f40ae30e7893f… (all of the seat's roots in one cut). By AI agents, Wed Nov 11 2026. No macro, syntax, notation, axiom, sorry.
-/
import Derived.Test.YtodehmbgcncnhaaChecked
import GoSem.Claim
import GoSem.ClaimJoined
import GoSem.ClaimMapViews
import Derived.JoinedTies
import Derived.KernelRfl
namespace Go.Proofs.Ytodehmbgcncnhaa
/- THE CELL 'sum', in the pinned program and in every row, IS THE sha256 OF THE DUMP (.gsa) THAT YtodehmbgcncnhaaProg.lean LOADS. Nothing in Lean hashes anything: it is a label: what it is worth is what the hold of that sum in a sandbox is worth. -/
noncomputable def Try.pinned : Pinned := { name := "ytodehmbgcncnhaa", sum := "0d1f40ae30e7893fb47e0829283b4ba3314d9c4e147a3f6846cc975b22c59b80", checked := Try.checked }
namespace Rows
def none {H : Type} : Left H := { results := [], args := [] }

/-- 'laws.FnExactSettleUp': WHATEVER THE INPUT: true; the input reads as it did. -/
def fnExactSettleUpSpec : ChangeSpec := { name := "fnExactSettleUp", fn := fun _ => fun
  | [d1, d2, d3] => { results := [.lit (.bool true)], args := [d1, d2, d3] }
  | _ => none }
def fnExactSettleUpRow : OpenClaim := { program := "ytodehmbgcncnhaa", sum := "0d1f40ae30e7893fb47e0829283b4ba3314d9c4e147a3f6846cc975b22c59b80", func := "loop.example/g00052/laws.FnExactSettleUp", spec := "fnExactSettleUp", plainKeys := false, apart := false }
def FnExactSettleUpSaid : Prop := fnExactSettleUpRow.holds Try.pinned (OpenSpec.ofChange fnExactSettleUpSpec)

/-- ITS FALSE NEIGHBOUR: 'it returns false'. Refute it at one input. -/
def fnExactSettleUpWrong : ChangeSpec := { name := "fnExactSettleUp", fn := fun _ => fun
  | [d1, d2, d3] => { results := [.lit (.bool false)], args := [d1, d2, d3] }
  | _ => none }
def FnExactSettleUpWrongFalsely : Prop := fnExactSettleUpRow.holds Try.pinned (OpenSpec.ofChange fnExactSettleUpWrong)

/-- 'laws.FnExactTariffsOk': WHATEVER THE INPUT: true; the input reads as it did. -/
def fnExactTariffsOkSpec : ChangeSpec := { name := "fnExactTariffsOk", fn := fun _ => fun
  | [d] => { results := [.lit (.bool true)], args := [d] }
  | _ => none }
def fnExactTariffsOkRow : OpenClaim := { program := "ytodehmbgcncnhaa", sum := "0d1f40ae30e7893fb47e0829283b4ba3314d9c4e147a3f6846cc975b22c59b80", func := "loop.example/g00052/laws.FnExactTariffsOk", spec := "fnExactTariffsOk", plainKeys := false, apart := false }
def FnExactTariffsOkSaid : Prop := fnExactTariffsOkRow.holds Try.pinned (OpenSpec.ofChange fnExactTariffsOkSpec)

/-- ITS FALSE NEIGHBOUR: 'it returns false'. Refute it at one input. -/
def fnExactTariffsOkWrong : ChangeSpec := { name := "fnExactTariffsOk", fn := fun _ => fun
  | [d] => { results := [.lit (.bool false)], args := [d] }
  | _ => none }
def FnExactTariffsOkWrongFalsely : Prop := fnExactTariffsOkRow.holds Try.pinned (OpenSpec.ofChange fnExactTariffsOkWrong)

/-- 'laws.FnExactTariffAt': WHATEVER THE INPUT: true; the input reads as it did. -/
def fnExactTariffAtSpec : ChangeSpec := { name := "fnExactTariffAt", fn := fun _ => fun
  | [d1, d2, d3] => { results := [.lit (.bool true)], args := [d1, d2, d3] }
  | _ => none }
def fnExactTariffAtRow : OpenClaim := { program := "ytodehmbgcncnhaa", sum := "0d1f40ae30e7893fb47e0829283b4ba3314d9c4e147a3f6846cc975b22c59b80", func := "loop.example/g00052/laws.FnExactTariffAt", spec := "fnExactTariffAt", plainKeys := false, apart := false }
def FnExactTariffAtSaid : Prop := fnExactTariffAtRow.holds Try.pinned (OpenSpec.ofChange fnExactTariffAtSpec)

/-- ITS FALSE NEIGHBOUR: 'it returns false'. Refute it at one input. -/
def fnExactTariffAtWrong : ChangeSpec := { name := "fnExactTariffAt", fn := fun _ => fun
  | [d1, d2, d3] => { results := [.lit (.bool false)], args := [d1, d2, d3] }
  | _ => none }
def FnExactTariffAtWrongFalsely : Prop := fnExactTariffAtRow.holds Try.pinned (OpenSpec.ofChange fnExactTariffAtWrong)

/-- 'laws.FnExactRate': WHATEVER THE INPUT: true; the input reads as it did. -/
def fnExactRateSpec : ChangeSpec := { name := "fnExactRate", fn := fun _ => fun
  | [d1, d2, d3, d4] => { results := [.lit (.bool true)], args := [d1, d2, d3, d4] }
  | _ => none }
def fnExactRateRow : OpenClaim := { program := "ytodehmbgcncnhaa", sum := "0d1f40ae30e7893fb47e0829283b4ba3314d9c4e147a3f6846cc975b22c59b80", func := "loop.example/g00052/laws.FnExactRate", spec := "fnExactRate", plainKeys := false, apart := false }
def FnExactRateSaid : Prop := fnExactRateRow.holds Try.pinned (OpenSpec.ofChange fnExactRateSpec)

/-- ITS FALSE NEIGHBOUR: 'it returns false'. Refute it at one input. -/
def fnExactRateWrong : ChangeSpec := { name := "fnExactRate", fn := fun _ => fun
  | [d1, d2, d3, d4] => { results := [.lit (.bool false)], args := [d1, d2, d3, d4] }
  | _ => none }
def FnExactRateWrongFalsely : Prop := fnExactRateRow.holds Try.pinned (OpenSpec.ofChange fnExactRateWrong)

/-- 'laws.FnExactReserve': WHATEVER THE INPUT: true; the input reads as it did. -/
def fnExactReserveSpec : ChangeSpec := { name := "fnExactReserve", fn := fun _ => fun
  | [d1, d2, d3, d4, d5] => { results := [.lit (.bool true)], args := [d1, d2, d3, d4, d5] }
  | _ => none }
def fnExactReserveRow : OpenClaim := { program := "ytodehmbgcncnhaa", sum := "0d1f40ae30e7893fb47e0829283b4ba3314d9c4e147a3f6846cc975b22c59b80", func := "loop.example/g00052/laws.FnExactReserve", spec := "fnExactReserve", plainKeys := false, apart := false }
def FnExactReserveSaid : Prop := fnExactReserveRow.holds Try.pinned (OpenSpec.ofChange fnExactReserveSpec)

/-- ITS FALSE NEIGHBOUR: 'it returns false'. Refute it at one input. -/
def fnExactReserveWrong : ChangeSpec := { name := "fnExactReserve", fn := fun _ => fun
  | [d1, d2, d3, d4, d5] => { results := [.lit (.bool false)], args := [d1, d2, d3, d4, d5] }
  | _ => none }
def FnExactReserveWrongFalsely : Prop := fnExactReserveRow.holds Try.pinned (OpenSpec.ofChange fnExactReserveWrong)

/-- 'laws.FnExactRateParts': WHATEVER THE INPUT: true; the input reads as it did. -/
def fnExactRatePartsSpec : ChangeSpec := { name := "fnExactRateParts", fn := fun _ => fun
  | [d1, d2, d3, d4, d5] => { results := [.lit (.bool true)], args := [d1, d2, d3, d4, d5] }
  | _ => none }
def fnExactRatePartsRow : OpenClaim := { program := "ytodehmbgcncnhaa", sum := "0d1f40ae30e7893fb47e0829283b4ba3314d9c4e147a3f6846cc975b22c59b80", func := "loop.example/g00052/laws.FnExactRateParts", spec := "fnExactRateParts", plainKeys := false, apart := false }
def FnExactRatePartsSaid : Prop := fnExactRatePartsRow.holds Try.pinned (OpenSpec.ofChange fnExactRatePartsSpec)

/-- ITS FALSE NEIGHBOUR: 'it returns false'. Refute it at one input. -/
def fnExactRatePartsWrong : ChangeSpec := { name := "fnExactRateParts", fn := fun _ => fun
  | [d1, d2, d3, d4, d5] => { results := [.lit (.bool false)], args := [d1, d2, d3, d4, d5] }
  | _ => none }
def FnExactRatePartsWrongFalsely : Prop := fnExactRatePartsRow.holds Try.pinned (OpenSpec.ofChange fnExactRatePartsWrong)

/-- 'laws.FnLonger': WHATEVER THE INPUT: true; the input reads as it did. -/
def fnLongerSpec : ChangeSpec := { name := "fnLonger", fn := fun _ => fun
  | [d] => { results := [.lit (.bool true)], args := [d] }
  | _ => none }
def fnLongerRow : OpenClaim := { program := "ytodehmbgcncnhaa", sum := "0d1f40ae30e7893fb47e0829283b4ba3314d9c4e147a3f6846cc975b22c59b80", func := "loop.example/g00052/laws.FnLonger", spec := "fnLonger", plainKeys := false, apart := false }
def FnLongerSaid : Prop := fnLongerRow.holds Try.pinned (OpenSpec.ofChange fnLongerSpec)

/-- ITS FALSE NEIGHBOUR: 'it returns false'. Refute it at one input. -/
def fnLongerWrong : ChangeSpec := { name := "fnLonger", fn := fun _ => fun
  | [d] => { results := [.lit (.bool false)], args := [d] }
  | _ => none }
def FnLongerWrongFalsely : Prop := fnLongerRow.holds Try.pinned (OpenSpec.ofChange fnLongerWrong)

/-- 'laws.FnReserved': WHATEVER THE INPUT: true; the input reads as it did. -/
def fnReservedSpec : ChangeSpec := { name := "fnReserved", fn := fun _ => fun
  | [d] => { results := [.lit (.bool true)], args := [d] }
  | _ => none }
def fnReservedRow : OpenClaim := { program := "ytodehmbgcncnhaa", sum := "0d1f40ae30e7893fb47e0829283b4ba3314d9c4e147a3f6846cc975b22c59b80", func := "loop.example/g00052/laws.FnReserved", spec := "fnReserved", plainKeys := false, apart := false }
def FnReservedSaid : Prop := fnReservedRow.holds Try.pinned (OpenSpec.ofChange fnReservedSpec)

/-- ITS FALSE NEIGHBOUR: 'it returns false'. Refute it at one input. -/
def fnReservedWrong : ChangeSpec := { name := "fnReserved", fn := fun _ => fun
  | [d] => { results := [.lit (.bool false)], args := [d] }
  | _ => none }
def FnReservedWrongFalsely : Prop := fnReservedRow.holds Try.pinned (OpenSpec.ofChange fnReservedWrong)

/- THE SECOND FORM. 'bulk': how many values and letters a reading holds, each counted each time it is reached (what is shared counts as often as it is met; a slice's spare places count too). A statement '..UptoSaid' is the law's where the arguments, and the package variables that the reading takes, are together of bulk at most 1048576: NARROWER than '..Said'. Prove '..Said' where nothing that the law and all that it calls make is longer than what came in: it says more and counts as full. Else prove '..UptoSaid'. A law counts once. -/
mutual
def uptoBulk {H : Type} : DataW H → Nat
  | .lit (.string bytes) => bytes.length + 1
  | .lit _ => 1
  | .nil => 1
  | .ptr d => uptoBulk d + 1
  | .slice elems spare => uptoBulkAll elems + uptoBulkAll spare + 1
  | .agg parts => uptoBulkAll parts + 1
  | .iface _ d => uptoBulk d + 1
  | .map entries => uptoBulkEntries entries + 1
  | .held _ => 1
def uptoBulkAll {H : Type} : List (DataW H) → Nat
  | [] => 0
  | d :: r => uptoBulk d + uptoBulkAll r
def uptoBulkEntries {H : Type} : List (Lit × DataW H) → Nat
  | [] => 0
  | x :: r => uptoBulkEntry x + uptoBulkEntries r
def uptoBulkEntry {H : Type} : Lit × DataW H → Nat
  | (.string bytes, d) => bytes.length + uptoBulk d + 1
  | (_, d) => uptoBulk d + 1
 end
def uptoSmall : (H : Type) → List (DataW H) → Bool := fun _ ds => decide (uptoBulkAll ds ≤ 1048576)
def OpenSpec.upto (s : _root_.Go.ChangeSpec) : _root_.Go.OpenSpec := { _root_.Go.OpenSpec.ofChange s with cond := some uptoSmall }

/-- 'laws.FnExactSettleUp', WHERE WHAT IT READS IS OF BULK AT MOST 1048576: true; the input reads as it did. -/
def fnExactSettleUpUptoRow : OpenClaim := { program := "ytodehmbgcncnhaa", sum := "0d1f40ae30e7893fb47e0829283b4ba3314d9c4e147a3f6846cc975b22c59b80", func := "loop.example/g00052/laws.FnExactSettleUp", spec := "fnExactSettleUp", plainKeys := false, apart := false, narrowed := true }
def FnExactSettleUpUptoSaid : Prop := fnExactSettleUpUptoRow.holds Try.pinned (OpenSpec.upto fnExactSettleUpSpec)

/-- 'laws.FnExactTariffsOk', WHERE WHAT IT READS IS OF BULK AT MOST 1048576: true; the input reads as it did. -/
def fnExactTariffsOkUptoRow : OpenClaim := { program := "ytodehmbgcncnhaa", sum := "0d1f40ae30e7893fb47e0829283b4ba3314d9c4e147a3f6846cc975b22c59b80", func := "loop.example/g00052/laws.FnExactTariffsOk", spec := "fnExactTariffsOk", plainKeys := false, apart := false, narrowed := true }
def FnExactTariffsOkUptoSaid : Prop := fnExactTariffsOkUptoRow.holds Try.pinned (OpenSpec.upto fnExactTariffsOkSpec)

/-- 'laws.FnExactTariffAt', WHERE WHAT IT READS IS OF BULK AT MOST 1048576: true; the input reads as it did. -/
def fnExactTariffAtUptoRow : OpenClaim := { program := "ytodehmbgcncnhaa", sum := "0d1f40ae30e7893fb47e0829283b4ba3314d9c4e147a3f6846cc975b22c59b80", func := "loop.example/g00052/laws.FnExactTariffAt", spec := "fnExactTariffAt", plainKeys := false, apart := false, narrowed := true }
def FnExactTariffAtUptoSaid : Prop := fnExactTariffAtUptoRow.holds Try.pinned (OpenSpec.upto fnExactTariffAtSpec)

/-- 'laws.FnExactRate', WHERE WHAT IT READS IS OF BULK AT MOST 1048576: true; the input reads as it did. -/
def fnExactRateUptoRow : OpenClaim := { program := "ytodehmbgcncnhaa", sum := "0d1f40ae30e7893fb47e0829283b4ba3314d9c4e147a3f6846cc975b22c59b80", func := "loop.example/g00052/laws.FnExactRate", spec := "fnExactRate", plainKeys := false, apart := false, narrowed := true }
def FnExactRateUptoSaid : Prop := fnExactRateUptoRow.holds Try.pinned (OpenSpec.upto fnExactRateSpec)

/-- 'laws.FnExactReserve', WHERE WHAT IT READS IS OF BULK AT MOST 1048576: true; the input reads as it did. -/
def fnExactReserveUptoRow : OpenClaim := { program := "ytodehmbgcncnhaa", sum := "0d1f40ae30e7893fb47e0829283b4ba3314d9c4e147a3f6846cc975b22c59b80", func := "loop.example/g00052/laws.FnExactReserve", spec := "fnExactReserve", plainKeys := false, apart := false, narrowed := true }
def FnExactReserveUptoSaid : Prop := fnExactReserveUptoRow.holds Try.pinned (OpenSpec.upto fnExactReserveSpec)

/-- 'laws.FnExactRateParts', WHERE WHAT IT READS IS OF BULK AT MOST 1048576: true; the input reads as it did. -/
def fnExactRatePartsUptoRow : OpenClaim := { program := "ytodehmbgcncnhaa", sum := "0d1f40ae30e7893fb47e0829283b4ba3314d9c4e147a3f6846cc975b22c59b80", func := "loop.example/g00052/laws.FnExactRateParts", spec := "fnExactRateParts", plainKeys := false, apart := false, narrowed := true }
def FnExactRatePartsUptoSaid : Prop := fnExactRatePartsUptoRow.holds Try.pinned (OpenSpec.upto fnExactRatePartsSpec)

/-- 'laws.FnLonger', WHERE WHAT IT READS IS OF BULK AT MOST 1048576: true; the input reads as it did. -/
def fnLongerUptoRow : OpenClaim := { program := "ytodehmbgcncnhaa", sum := "0d1f40ae30e7893fb47e0829283b4ba3314d9c4e147a3f6846cc975b22c59b80", func := "loop.example/g00052/laws.FnLonger", spec := "fnLonger", plainKeys := false, apart := false, narrowed := true }
def FnLongerUptoSaid : Prop := fnLongerUptoRow.holds Try.pinned (OpenSpec.upto fnLongerSpec)

/-- 'laws.FnReserved', WHERE WHAT IT READS IS OF BULK AT MOST 1048576: true; the input reads as it did. -/
def fnReservedUptoRow : OpenClaim := { program := "ytodehmbgcncnhaa", sum := "0d1f40ae30e7893fb47e0829283b4ba3314d9c4e147a3f6846cc975b22c59b80", func := "loop.example/g00052/laws.FnReserved", spec := "fnReserved", plainKeys := false, apart := false, narrowed := true }
def FnReservedUptoSaid : Prop := fnReservedUptoRow.holds Try.pinned (OpenSpec.upto fnReservedSpec)

end Rows
end Go.Proofs.Ytodehmbgcncnhaa
