/-
  No cell of these rows narrows 'for every input' (looked for: loops, veiled, ifaces, maps, wideKeys, modest, calm, conditions, laid).
  DERIVED. THE GIVEN ROWS OF THIS SEAT. 6 by the template 'for every input the law returns true; each argument reads behind the call as it read before'; 0 by the template 'total and deterministic' (their statements: YtllgjohkkahfgaaTotals.lean).
  GIVEN WITH THE SEED: the statements are not yours to turn. If you find one false, say at which input.
  Laid BY PROGRAM, IN A SANDBOX (cutbox-rows.mjs): the forced cells as the released guide's own fill.sh prints them over the translation 8f9edc47fb5dc8ac… (all of the seat's roots in one cut). By AI agents, Wed Nov 11 2026. No macro, syntax, notation, axiom, sorry.
-/
import Derived.Test.YtllgjohkkahfgaaChecked
import GoSem.Claim
import GoSem.ClaimJoined
import GoSem.ClaimMapViews
import Derived.JoinedTies
import Derived.KernelRfl
namespace Go.Proofs.Ytllgjohkkahfgaa
/- THE CELL 'sum', in the pinned program and in every row, IS THE sha256 OF THE DUMP (.gsa) THAT YtllgjohkkahfgaaProg.lean LOADS. Nothing in Lean hashes anything: it is a label: what it is worth is what the hold of that sum in a sandbox is worth. -/
noncomputable def Try.pinned : Pinned := { name := "ytllgjohkkahfgaa", sum := "8f9edc47fb5dc8ace19882e4f0ebc29e73386c20ed952862bdc0b2d43ddcf80a", checked := Try.checked }
namespace Rows
def none {H : Type} : Left H := { results := [], args := [] }

/-- 'laws.FnExactDeskOk': WHATEVER THE INPUT: true; the input reads as it did. -/
def fnExactDeskOkSpec : ChangeSpec := { name := "fnExactDeskOk", fn := fun _ => fun
  | [d] => { results := [.lit (.bool true)], args := [d] }
  | _ => none }
def fnExactDeskOkRow : OpenClaim := { program := "ytllgjohkkahfgaa", sum := "8f9edc47fb5dc8ace19882e4f0ebc29e73386c20ed952862bdc0b2d43ddcf80a", func := "loop.example/g00052/laws.FnExactDeskOk", spec := "fnExactDeskOk", unfollowed := true, recurses := true, apart := false }
def FnExactDeskOkSaid : Prop := fnExactDeskOkRow.holds Try.pinned (OpenSpec.ofChange fnExactDeskOkSpec)

/-- ITS FALSE NEIGHBOUR: 'it returns false'. Refute it at one input. -/
def fnExactDeskOkWrong : ChangeSpec := { name := "fnExactDeskOk", fn := fun _ => fun
  | [d] => { results := [.lit (.bool false)], args := [d] }
  | _ => none }
def FnExactDeskOkWrongFalsely : Prop := fnExactDeskOkRow.holds Try.pinned (OpenSpec.ofChange fnExactDeskOkWrong)

/-- 'laws.FnExactServed': WHATEVER THE INPUT: true; the input reads as it did. -/
def fnExactServedSpec : ChangeSpec := { name := "fnExactServed", fn := fun _ => fun
  | [d1, d2] => { results := [.lit (.bool true)], args := [d1, d2] }
  | _ => none }
def fnExactServedRow : OpenClaim := { program := "ytllgjohkkahfgaa", sum := "8f9edc47fb5dc8ace19882e4f0ebc29e73386c20ed952862bdc0b2d43ddcf80a", func := "loop.example/g00052/laws.FnExactServed", spec := "fnExactServed", unfollowed := true, recurses := true, apart := false }
def FnExactServedSaid : Prop := fnExactServedRow.holds Try.pinned (OpenSpec.ofChange fnExactServedSpec)

/-- ITS FALSE NEIGHBOUR: 'it returns false'. Refute it at one input. -/
def fnExactServedWrong : ChangeSpec := { name := "fnExactServed", fn := fun _ => fun
  | [d1, d2] => { results := [.lit (.bool false)], args := [d1, d2] }
  | _ => none }
def FnExactServedWrongFalsely : Prop := fnExactServedRow.holds Try.pinned (OpenSpec.ofChange fnExactServedWrong)

/-- 'laws.FnTurns8': WHATEVER THE INPUT: true; the input reads as it did. -/
def fnTurns8Spec : ChangeSpec := { name := "fnTurns8", fn := fun _ => fun
  | [d] => { results := [.lit (.bool true)], args := [d] }
  | _ => none }
def fnTurns8Row : OpenClaim := { program := "ytllgjohkkahfgaa", sum := "8f9edc47fb5dc8ace19882e4f0ebc29e73386c20ed952862bdc0b2d43ddcf80a", func := "loop.example/g00052/laws.FnTurns8", spec := "fnTurns8", unfollowed := true, recurses := true, apart := false }
def FnTurns8Said : Prop := fnTurns8Row.holds Try.pinned (OpenSpec.ofChange fnTurns8Spec)

/-- ITS FALSE NEIGHBOUR: 'it returns false'. Refute it at one input. -/
def fnTurns8Wrong : ChangeSpec := { name := "fnTurns8", fn := fun _ => fun
  | [d] => { results := [.lit (.bool false)], args := [d] }
  | _ => none }
def FnTurns8WrongFalsely : Prop := fnTurns8Row.holds Try.pinned (OpenSpec.ofChange fnTurns8Wrong)

/-- 'laws.FnNoIdle': WHATEVER THE INPUT: true; the input reads as it did. -/
def fnNoIdleSpec : ChangeSpec := { name := "fnNoIdle", fn := fun _ => fun
  | [d] => { results := [.lit (.bool true)], args := [d] }
  | _ => none }
def fnNoIdleRow : OpenClaim := { program := "ytllgjohkkahfgaa", sum := "8f9edc47fb5dc8ace19882e4f0ebc29e73386c20ed952862bdc0b2d43ddcf80a", func := "loop.example/g00052/laws.FnNoIdle", spec := "fnNoIdle", unfollowed := true, recurses := true, apart := false }
def FnNoIdleSaid : Prop := fnNoIdleRow.holds Try.pinned (OpenSpec.ofChange fnNoIdleSpec)

/-- ITS FALSE NEIGHBOUR: 'it returns false'. Refute it at one input. -/
def fnNoIdleWrong : ChangeSpec := { name := "fnNoIdle", fn := fun _ => fun
  | [d] => { results := [.lit (.bool false)], args := [d] }
  | _ => none }
def FnNoIdleWrongFalsely : Prop := fnNoIdleRow.holds Try.pinned (OpenSpec.ofChange fnNoIdleWrong)

/-- 'laws.FnExactDoDesk': WHATEVER THE INPUT: true; the input reads as it did. -/
def fnExactDoDeskSpec : ChangeSpec := { name := "fnExactDoDesk", fn := fun _ => fun
  | [d1, d2] => { results := [.lit (.bool true)], args := [d1, d2] }
  | _ => none }
def fnExactDoDeskRow : OpenClaim := { program := "ytllgjohkkahfgaa", sum := "8f9edc47fb5dc8ace19882e4f0ebc29e73386c20ed952862bdc0b2d43ddcf80a", func := "loop.example/g00052/laws.FnExactDoDesk", spec := "fnExactDoDesk", unfollowed := true, recurses := true, apart := false }
def FnExactDoDeskSaid : Prop := fnExactDoDeskRow.holds Try.pinned (OpenSpec.ofChange fnExactDoDeskSpec)

/-- ITS FALSE NEIGHBOUR: 'it returns false'. Refute it at one input. -/
def fnExactDoDeskWrong : ChangeSpec := { name := "fnExactDoDesk", fn := fun _ => fun
  | [d1, d2] => { results := [.lit (.bool false)], args := [d1, d2] }
  | _ => none }
def FnExactDoDeskWrongFalsely : Prop := fnExactDoDeskRow.holds Try.pinned (OpenSpec.ofChange fnExactDoDeskWrong)

/-- 'laws.FnExactRunDesk': WHATEVER THE INPUT: true; the input reads as it did. -/
def fnExactRunDeskSpec : ChangeSpec := { name := "fnExactRunDesk", fn := fun _ => fun
  | [d1, d2] => { results := [.lit (.bool true)], args := [d1, d2] }
  | _ => none }
def fnExactRunDeskRow : OpenClaim := { program := "ytllgjohkkahfgaa", sum := "8f9edc47fb5dc8ace19882e4f0ebc29e73386c20ed952862bdc0b2d43ddcf80a", func := "loop.example/g00052/laws.FnExactRunDesk", spec := "fnExactRunDesk", unfollowed := true, recurses := true, apart := false }
def FnExactRunDeskSaid : Prop := fnExactRunDeskRow.holds Try.pinned (OpenSpec.ofChange fnExactRunDeskSpec)

/-- ITS FALSE NEIGHBOUR: 'it returns false'. Refute it at one input. -/
def fnExactRunDeskWrong : ChangeSpec := { name := "fnExactRunDesk", fn := fun _ => fun
  | [d1, d2] => { results := [.lit (.bool false)], args := [d1, d2] }
  | _ => none }
def FnExactRunDeskWrongFalsely : Prop := fnExactRunDeskRow.holds Try.pinned (OpenSpec.ofChange fnExactRunDeskWrong)

/- THE SECOND FORM. 'bulk': how many values and letters a reading holds, each counted each time it is reached (what is shared counts as often as it is met; a slice's spare places count too). A statement '..UptoSaid' is the law's where the arguments, and the package variables that the reading takes, are together of bulk at most 1048576: NARROWER than '..Said'. Prove '..Said' where nothing that the law and all that it calls make is longer than what came in: it says more and counts as full. Else prove '..UptoSaid'. A law counts once. -/
mutual
def uptoBulk {H : Type} : DataW H → Nat
  | .lit (.string bytes) => bytes.length + 1
  | .lit _ => 1
  | .nil => 1
  | .ptr d => uptoBulk d + 1
  | .slice elems spare => uptoBulkAll elems + uptoBulkAll spare + 1
  | .agg parts => uptoBulkAll parts + 1
  | .iface _ d => uptoBulk d + 1
  | .map entries => uptoBulkEntries entries + 1
  | .held _ => 1
def uptoBulkAll {H : Type} : List (DataW H) → Nat
  | [] => 0
  | d :: r => uptoBulk d + uptoBulkAll r
def uptoBulkEntries {H : Type} : List (Lit × DataW H) → Nat
  | [] => 0
  | x :: r => uptoBulkEntry x + uptoBulkEntries r
def uptoBulkEntry {H : Type} : Lit × DataW H → Nat
  | (.string bytes, d) => bytes.length + uptoBulk d + 1
  | (_, d) => uptoBulk d + 1
 end
def uptoSmall : (H : Type) → List (DataW H) → Bool := fun _ ds => decide (uptoBulkAll ds ≤ 1048576)
def OpenSpec.upto (s : _root_.Go.ChangeSpec) : _root_.Go.OpenSpec := { _root_.Go.OpenSpec.ofChange s with cond := some uptoSmall }

/-- 'laws.FnExactDeskOk', WHERE WHAT IT READS IS OF BULK AT MOST 1048576: true; the input reads as it did. -/
def fnExactDeskOkUptoRow : OpenClaim := { program := "ytllgjohkkahfgaa", sum := "8f9edc47fb5dc8ace19882e4f0ebc29e73386c20ed952862bdc0b2d43ddcf80a", func := "loop.example/g00052/laws.FnExactDeskOk", spec := "fnExactDeskOk", unfollowed := true, recurses := true, apart := false, narrowed := true }
def FnExactDeskOkUptoSaid : Prop := fnExactDeskOkUptoRow.holds Try.pinned (OpenSpec.upto fnExactDeskOkSpec)

/-- 'laws.FnExactServed', WHERE WHAT IT READS IS OF BULK AT MOST 1048576: true; the input reads as it did. -/
def fnExactServedUptoRow : OpenClaim := { program := "ytllgjohkkahfgaa", sum := "8f9edc47fb5dc8ace19882e4f0ebc29e73386c20ed952862bdc0b2d43ddcf80a", func := "loop.example/g00052/laws.FnExactServed", spec := "fnExactServed", unfollowed := true, recurses := true, apart := false, narrowed := true }
def FnExactServedUptoSaid : Prop := fnExactServedUptoRow.holds Try.pinned (OpenSpec.upto fnExactServedSpec)

/-- 'laws.FnTurns8', WHERE WHAT IT READS IS OF BULK AT MOST 1048576: true; the input reads as it did. -/
def fnTurns8UptoRow : OpenClaim := { program := "ytllgjohkkahfgaa", sum := "8f9edc47fb5dc8ace19882e4f0ebc29e73386c20ed952862bdc0b2d43ddcf80a", func := "loop.example/g00052/laws.FnTurns8", spec := "fnTurns8", unfollowed := true, recurses := true, apart := false, narrowed := true }
def FnTurns8UptoSaid : Prop := fnTurns8UptoRow.holds Try.pinned (OpenSpec.upto fnTurns8Spec)

/-- 'laws.FnNoIdle', WHERE WHAT IT READS IS OF BULK AT MOST 1048576: true; the input reads as it did. -/
def fnNoIdleUptoRow : OpenClaim := { program := "ytllgjohkkahfgaa", sum := "8f9edc47fb5dc8ace19882e4f0ebc29e73386c20ed952862bdc0b2d43ddcf80a", func := "loop.example/g00052/laws.FnNoIdle", spec := "fnNoIdle", unfollowed := true, recurses := true, apart := false, narrowed := true }
def FnNoIdleUptoSaid : Prop := fnNoIdleUptoRow.holds Try.pinned (OpenSpec.upto fnNoIdleSpec)

/-- 'laws.FnExactDoDesk', WHERE WHAT IT READS IS OF BULK AT MOST 1048576: true; the input reads as it did. -/
def fnExactDoDeskUptoRow : OpenClaim := { program := "ytllgjohkkahfgaa", sum := "8f9edc47fb5dc8ace19882e4f0ebc29e73386c20ed952862bdc0b2d43ddcf80a", func := "loop.example/g00052/laws.FnExactDoDesk", spec := "fnExactDoDesk", unfollowed := true, recurses := true, apart := false, narrowed := true }
def FnExactDoDeskUptoSaid : Prop := fnExactDoDeskUptoRow.holds Try.pinned (OpenSpec.upto fnExactDoDeskSpec)

/-- 'laws.FnExactRunDesk', WHERE WHAT IT READS IS OF BULK AT MOST 1048576: true; the input reads as it did. -/
def fnExactRunDeskUptoRow : OpenClaim := { program := "ytllgjohkkahfgaa", sum := "8f9edc47fb5dc8ace19882e4f0ebc29e73386c20ed952862bdc0b2d43ddcf80a", func := "loop.example/g00052/laws.FnExactRunDesk", spec := "fnExactRunDesk", unfollowed := true, recurses := true, apart := false, narrowed := true }
def FnExactRunDeskUptoSaid : Prop := fnExactRunDeskUptoRow.holds Try.pinned (OpenSpec.upto fnExactRunDeskSpec)

end Rows
end Go.Proofs.Ytllgjohkkahfgaa
