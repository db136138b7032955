-- The kit's words, printed by its print.sh; the theorems that this seat does not need are left out by a program of this session (wip/tool/shake.py). Lean checks it.
import Derived.Test.YtejllhfmhcccaaaDoorWWords
import Derived.Laws.StructEq
/-! ### 53. '==' of structs as_ one Bool -/
namespace Go.Proofs.YtejllhfmhcccaaaDoorW.PrintWords
open Go.RowKit
section
variable {P : Program} {d : Nat} {xs ys : Array Value} {f : Field} {fs : List Field} {a b : Value} {r s : Bool} {w : World}
end
end Go.Proofs.YtejllhfmhcccaaaDoorW.PrintWords
