-- The kit's words, printed by its print.sh; the theorems that this seat does not need are left out by a program of this session (wip/tool/shake.py). Lean checks it.
import Derived.Test.YtijjnjdfdoaafaaWInv
import Derived.Test.YtijjnjdfdoaafaaWFootNe
namespace Go.Proofs.YtijjnjdfdoaafaaW.PrintWords
open Go.RowKit
end Go.Proofs.YtijjnjdfdoaafaaW.PrintWords
namespace Go.Proofs.YtijjnjdfdoaafaaW.PrintLast
section
variable {ops : Array Oper} {a : Act} {o og : Oper} {g : Nat} {t : Tmp} {u : Bool}
end
end Go.Proofs.YtijjnjdfdoaafaaW.PrintLast
