-- Written by a program of this session (wip/tool), turned from the kit's print. Lean checks it.
import Derived.Test.YtpflhfblgfnciaaProg
import Derived.Below
import Derived.Deep.Draws
import Derived.Deep.AppendLies
import Derived.Maps.AppendAt
import Derived.OwnWalk
import Derived.Laws.BytesArg
import Derived.Laws.MakeOwn
import Derived.Laws.OwnMore
import Derived.Deep.OwnRows
import Derived.Tactics
import Derived.Lib.ConvBytes
import Derived.Laws.Slices
import Derived.WalkKit
import Derived.KernelRfl
import Derived.RowKit3
import Derived.Deep.LoopGhost
import Derived.Deep.QuietTactic
import Derived.BigQuiet
import Derived.WideLaws
import Derived.Deep.DeepCutAuto
import Derived.Deep.CutBlock
import Derived.Deep.RegionHeld3
import Derived.Laws.Rows
import Derived.Lib.AppendStr
import Derived.ArgAppend
import Derived.Laws.IdiomCopy
import Derived.OrdersHeld
import Derived.Laws.BitsLemmas
import Derived.RowKit
import Derived.Test.YtpflhfblgfnciaaWWords
import Derived.Test.YtpflhfblgfnciaaWLast
import Derived.Test.YtpflhfblgfnciaaWTab
import Derived.Test.YtpflhfblgfnciaaWFour
import Derived.Test.YtpflhfblgfnciaaWQPut
import Derived.Test.YtpflhfblgfnciaaWApart
import Derived.Test.YtpflhfblgfnciaaWArr
import Derived.Test.YtpflhfblgfnciaaWZeros
import Derived.Test.YtpflhfblgfnciaaWFoot
import Derived.Test.YtpflhfblgfnciaaWKept
import Derived.Test.YtpflhfblgfnciaaWShare
import Derived.Test.YtpflhfblgfnciaaWN
import Derived.Test.YtpflhfblgfnciaaWFootNe
import Derived.Test.YtpflhfblgfnciaaWAt
import Derived.Test.YtpflhfblgfnciaaWEqStruct
import Derived.Test.YtpflhfblgfnciaaWRepsOne
import Derived.Test.YtpflhfblgfnciaaWInv
import Derived.Test.YtpflhfblgfnciaaWInvWords
import Derived.Test.YtpflhfblgfnciaaWGuard
import Derived.Test.YtpflhfblgfnciaaWNEv
import Derived.Test.YtpflhfblgfnciaaWMore
import Derived.Test.YtpflhfblgfnciaaYWords
namespace Go.Proofs.Ytpflhfblgfnciaa.P
open Go.RowKit Go.Proofs.YtpflhfblgfnciaaW.PrintWords Go.Proofs.YtpflhfblgfnciaaW.PrintLast Go.Proofs.YtpflhfblgfnciaaW.PrintMore
attribute [local go_sem] max2_int min2_int max_two min_two max_three min_three max_four min_four   -- for this text's walks alone
set_option linter.unusedVariables false
set_option linter.unusedSimpArgs false



def errW : Option Int → Value
  | none => .nilIface
  | some c => .iface 0 (.int .i64 c)
theorem errW_none : errW none = .nilIface := rfl
theorem errW_some (c : Int) : errW (some c) = .iface 0 (.int .i64 c) := rfl

theorem info28 : (Try.prog.info? 28).map (fun i => (i.zero, i.size, i.bytes)) = some (some (.int .u32 0), 1, 4) := by kernel_rfl
-- the values' own types

end Go.Proofs.Ytpflhfblgfnciaa.P
