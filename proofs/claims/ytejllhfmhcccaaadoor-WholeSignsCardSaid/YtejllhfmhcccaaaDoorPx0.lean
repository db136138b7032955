-- Written by a program of this session (wip/tool), turned from the kit's print. Lean checks it.
import Derived.Test.YtejllhfmhcccaaaDoorProg
import Derived.Below
import Derived.Deep.Draws
import Derived.Deep.AppendLies
import Derived.Maps.AppendAt
import Derived.OwnWalk
import Derived.Laws.BytesArg
import Derived.Laws.MakeOwn
import Derived.Laws.OwnMore
import Derived.Deep.OwnRows
import Derived.Tactics
import Derived.Lib.ConvBytes
import Derived.Laws.Slices
import Derived.WalkKit
import Derived.KernelRfl
import Derived.RowKit3
import Derived.Deep.LoopGhost
import Derived.Deep.QuietTactic
import Derived.BigQuiet
import Derived.WideLaws
import Derived.Deep.DeepCutAuto
import Derived.Deep.CutBlock
import Derived.Deep.RegionHeld3
import Derived.Laws.Rows
import Derived.Lib.AppendStr
import Derived.ArgAppend
import Derived.Laws.IdiomCopy
import Derived.OrdersHeld
import Derived.Laws.BitsLemmas
import Derived.RowKit
import Derived.Test.YtejllhfmhcccaaaDoorWWords
import Derived.Test.YtejllhfmhcccaaaDoorWLast
import Derived.Test.YtejllhfmhcccaaaDoorWTab
import Derived.Test.YtejllhfmhcccaaaDoorWFour
import Derived.Test.YtejllhfmhcccaaaDoorWQPut
import Derived.Test.YtejllhfmhcccaaaDoorWApart
import Derived.Test.YtejllhfmhcccaaaDoorWArr
import Derived.Test.YtejllhfmhcccaaaDoorWZeros
import Derived.Test.YtejllhfmhcccaaaDoorWFoot
import Derived.Test.YtejllhfmhcccaaaDoorWKept
import Derived.Test.YtejllhfmhcccaaaDoorWShare
import Derived.Test.YtejllhfmhcccaaaDoorWN
import Derived.Test.YtejllhfmhcccaaaDoorWFootNe
import Derived.Test.YtejllhfmhcccaaaDoorWAt
import Derived.Test.YtejllhfmhcccaaaDoorWEqStruct
import Derived.Test.YtejllhfmhcccaaaDoorWRepsOne
import Derived.Test.YtejllhfmhcccaaaDoorWInv
import Derived.Test.YtejllhfmhcccaaaDoorWInvWords
import Derived.Test.YtejllhfmhcccaaaDoorWGuard
import Derived.Test.YtejllhfmhcccaaaDoorWNEv
import Derived.Test.YtejllhfmhcccaaaDoorWMore
import Derived.Test.YtejllhfmhcccaaaDoorYWords
namespace Go.Proofs.YtejllhfmhcccaaaDoor.P
open Go.RowKit Go.Proofs.YtejllhfmhcccaaaDoorW.PrintWords Go.Proofs.YtejllhfmhcccaaaDoorW.PrintLast Go.Proofs.YtejllhfmhcccaaaDoorW.PrintMore
attribute [local go_sem] max2_int min2_int max_two min_two max_three min_three max_four min_four   -- for this text's walks alone
set_option linter.unusedVariables false
set_option linter.unusedSimpArgs false



def errW : Option Int → Value
  | none => .nilIface
  | some c => .iface 0 (.int .i64 c)
theorem errW_none : errW none = .nilIface := rfl
theorem errW_some (c : Int) : errW (some c) = .iface 0 (.int .i64 c) := rfl

theorem info5 : (Tryd.prog.info? 5).map (fun i => (i.zero, i.size, i.bytes)) = some (some (.int .u8 0), 1, 1) := by kernel_rfl
theorem info32 : (Tryd.prog.info? 32).map (fun i => (i.zero, i.size, i.bytes)) = some (some (.int .u32 0), 1, 4) := by kernel_rfl
-- the values' own types

end Go.Proofs.YtejllhfmhcccaaaDoor.P
