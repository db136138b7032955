-- The kit's words, printed by its print.sh; the theorems that this seat does not need are left out by a program of this session (wip/tool/shake.py). Lean checks it.
import Derived.Test.YtejllhfmhcccaaaDoorWInv
import Derived.Test.YtejllhfmhcccaaaDoorWFootNe
namespace Go.Proofs.YtejllhfmhcccaaaDoorW.PrintWords
open Go.RowKit
end Go.Proofs.YtejllhfmhcccaaaDoorW.PrintWords
namespace Go.Proofs.YtejllhfmhcccaaaDoorW.PrintLast
section
variable {ops : Array Oper} {a : Act} {o og : Oper} {g : Nat} {t : Tmp} {u : Bool}
end
end Go.Proofs.YtejllhfmhcccaaaDoorW.PrintLast
