-- Written by a program of this session (wip/tool), turned from the kit's print. Lean checks it.
import Derived.Test.YtijjnjdfdoaafaaDoorProg
import Derived.Below
import Derived.Deep.Draws
import Derived.Deep.AppendLies
import Derived.Maps.AppendAt
import Derived.OwnWalk
import Derived.Laws.BytesArg
import Derived.Laws.MakeOwn
import Derived.Laws.OwnMore
import Derived.Deep.OwnRows
import Derived.Tactics
import Derived.Lib.ConvBytes
import Derived.Laws.Slices
import Derived.WalkKit
import Derived.KernelRfl
import Derived.RowKit3
import Derived.Deep.LoopGhost
import Derived.Deep.QuietTactic
import Derived.BigQuiet
import Derived.WideLaws
import Derived.Deep.DeepCutAuto
import Derived.Deep.CutBlock
import Derived.Deep.RegionHeld3
import Derived.Laws.Rows
import Derived.Lib.AppendStr
import Derived.ArgAppend
import Derived.Laws.IdiomCopy
import Derived.OrdersHeld
import Derived.Laws.BitsLemmas
import Derived.RowKit
import Derived.Test.YtijjnjdfdoaafaaDoorWWords
import Derived.Test.YtijjnjdfdoaafaaDoorWLast
import Derived.Test.YtijjnjdfdoaafaaDoorWTab
import Derived.Test.YtijjnjdfdoaafaaDoorWFour
import Derived.Test.YtijjnjdfdoaafaaDoorWQPut
import Derived.Test.YtijjnjdfdoaafaaDoorWApart
import Derived.Test.YtijjnjdfdoaafaaDoorWArr
import Derived.Test.YtijjnjdfdoaafaaDoorWZeros
import Derived.Test.YtijjnjdfdoaafaaDoorWFoot
import Derived.Test.YtijjnjdfdoaafaaDoorWKept
import Derived.Test.YtijjnjdfdoaafaaDoorWShare
import Derived.Test.YtijjnjdfdoaafaaDoorWN
import Derived.Test.YtijjnjdfdoaafaaDoorWFootNe
import Derived.Test.YtijjnjdfdoaafaaDoorWAt
import Derived.Test.YtijjnjdfdoaafaaDoorWEqStruct
import Derived.Test.YtijjnjdfdoaafaaDoorWRepsOne
import Derived.Test.YtijjnjdfdoaafaaDoorWInv
import Derived.Test.YtijjnjdfdoaafaaDoorWInvWords
import Derived.Test.YtijjnjdfdoaafaaDoorWGuard
import Derived.Test.YtijjnjdfdoaafaaDoorWNEv
import Derived.Test.YtijjnjdfdoaafaaDoorWMore
import Derived.Test.YtijjnjdfdoaafaaDoorYWords
namespace Go.Proofs.YtijjnjdfdoaafaaDoor.P
open Go.RowKit Go.Proofs.YtijjnjdfdoaafaaDoorW.PrintWords Go.Proofs.YtijjnjdfdoaafaaDoorW.PrintLast Go.Proofs.YtijjnjdfdoaafaaDoorW.PrintMore
attribute [local go_sem] max2_int min2_int max_two min_two max_three min_three max_four min_four   -- for this text's walks alone
set_option linter.unusedVariables false
set_option linter.unusedSimpArgs false



def errW : Option Int → Value
  | none => .nilIface
  | some c => .iface 0 (.int .i64 c)
theorem errW_none : errW none = .nilIface := rfl
theorem errW_some (c : Int) : errW (some c) = .iface 0 (.int .i64 c) := rfl

theorem info5 : (Tryd.prog.info? 5).map (fun i => (i.zero, i.size, i.bytes)) = some (some (.int .u8 0), 1, 1) := by kernel_rfl
theorem info39 : (Tryd.prog.info? 39).map (fun i => (i.zero, i.size, i.bytes)) = some (some (.int .u32 0), 1, 4) := by kernel_rfl
-- the values' own types

end Go.Proofs.YtijjnjdfdoaafaaDoor.P
