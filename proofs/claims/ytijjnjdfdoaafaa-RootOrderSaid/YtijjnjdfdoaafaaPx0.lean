-- Written by a program of this session (wip/tool), turned from the kit's print. Lean checks it.
import Derived.Test.YtijjnjdfdoaafaaProg
import Derived.Below
import Derived.Deep.Draws
import Derived.Deep.AppendLies
import Derived.Maps.AppendAt
import Derived.OwnWalk
import Derived.Laws.BytesArg
import Derived.Laws.MakeOwn
import Derived.Laws.OwnMore
import Derived.Deep.OwnRows
import Derived.Tactics
import Derived.Lib.ConvBytes
import Derived.Laws.Slices
import Derived.WalkKit
import Derived.KernelRfl
import Derived.RowKit3
import Derived.Deep.LoopGhost
import Derived.Deep.QuietTactic
import Derived.BigQuiet
import Derived.WideLaws
import Derived.Deep.DeepCutAuto
import Derived.Deep.CutBlock
import Derived.Deep.RegionHeld3
import Derived.Laws.Rows
import Derived.Lib.AppendStr
import Derived.ArgAppend
import Derived.Laws.IdiomCopy
import Derived.OrdersHeld
import Derived.Laws.BitsLemmas
import Derived.RowKit
import Derived.Test.YtijjnjdfdoaafaaWWords
import Derived.Test.YtijjnjdfdoaafaaWLast
import Derived.Test.YtijjnjdfdoaafaaWTab
import Derived.Test.YtijjnjdfdoaafaaWFour
import Derived.Test.YtijjnjdfdoaafaaWQPut
import Derived.Test.YtijjnjdfdoaafaaWApart
import Derived.Test.YtijjnjdfdoaafaaWArr
import Derived.Test.YtijjnjdfdoaafaaWZeros
import Derived.Test.YtijjnjdfdoaafaaWFoot
import Derived.Test.YtijjnjdfdoaafaaWKept
import Derived.Test.YtijjnjdfdoaafaaWShare
import Derived.Test.YtijjnjdfdoaafaaWN
import Derived.Test.YtijjnjdfdoaafaaWFootNe
import Derived.Test.YtijjnjdfdoaafaaWAt
import Derived.Test.YtijjnjdfdoaafaaWEqStruct
import Derived.Test.YtijjnjdfdoaafaaWRepsOne
import Derived.Test.YtijjnjdfdoaafaaWInv
import Derived.Test.YtijjnjdfdoaafaaWInvWords
import Derived.Test.YtijjnjdfdoaafaaWGuard
import Derived.Test.YtijjnjdfdoaafaaWNEv
import Derived.Test.YtijjnjdfdoaafaaWMore
import Derived.Test.YtijjnjdfdoaafaaYWords
namespace Go.Proofs.Ytijjnjdfdoaafaa.P
open Go.RowKit Go.Proofs.YtijjnjdfdoaafaaW.PrintWords Go.Proofs.YtijjnjdfdoaafaaW.PrintLast Go.Proofs.YtijjnjdfdoaafaaW.PrintMore
attribute [local go_sem] max2_int min2_int max_two min_two max_three min_three max_four min_four   -- for this text's walks alone
set_option linter.unusedVariables false
set_option linter.unusedSimpArgs false



def errW : Option Int → Value
  | none => .nilIface
  | some c => .iface 0 (.int .i64 c)
theorem errW_none : errW none = .nilIface := rfl
theorem errW_some (c : Int) : errW (some c) = .iface 0 (.int .i64 c) := rfl

theorem info24 : (Try.prog.info? 24).map (fun i => (i.zero, i.size, i.bytes)) = some (some (.int .u32 0), 1, 4) := by kernel_rfl
-- the values' own types

end Go.Proofs.Ytijjnjdfdoaafaa.P
