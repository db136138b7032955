-- Written by a program of this session (wip/tool), turned from the kit's print. Lean checks it.
import Derived.Test.YthcnnkajnmnloaaProg
import Derived.Below
import Derived.Deep.Draws
import Derived.Deep.AppendLies
import Derived.Maps.AppendAt
import Derived.OwnWalk
import Derived.Laws.BytesArg
import Derived.Laws.MakeOwn
import Derived.Laws.OwnMore
import Derived.Deep.OwnRows
import Derived.Tactics
import Derived.Lib.ConvBytes
import Derived.Laws.Slices
import Derived.WalkKit
import Derived.KernelRfl
import Derived.RowKit3
import Derived.Deep.LoopGhost
import Derived.Deep.QuietTactic
import Derived.BigQuiet
import Derived.WideLaws
import Derived.Deep.DeepCutAuto
import Derived.Deep.CutBlock
import Derived.Deep.RegionHeld3
import Derived.Laws.Rows
import Derived.Lib.AppendStr
import Derived.ArgAppend
import Derived.Laws.IdiomCopy
import Derived.OrdersHeld
import Derived.Laws.BitsLemmas
import Derived.RowKit
import Derived.Test.YthcnnkajnmnloaaWWords
import Derived.Test.YthcnnkajnmnloaaWLast
import Derived.Test.YthcnnkajnmnloaaWTab
import Derived.Test.YthcnnkajnmnloaaWFour
import Derived.Test.YthcnnkajnmnloaaWQPut
import Derived.Test.YthcnnkajnmnloaaWApart
import Derived.Test.YthcnnkajnmnloaaWArr
import Derived.Test.YthcnnkajnmnloaaWZeros
import Derived.Test.YthcnnkajnmnloaaWFoot
import Derived.Test.YthcnnkajnmnloaaWKept
import Derived.Test.YthcnnkajnmnloaaWShare
import Derived.Test.YthcnnkajnmnloaaWN
import Derived.Test.YthcnnkajnmnloaaWFootNe
import Derived.Test.YthcnnkajnmnloaaWAt
import Derived.Test.YthcnnkajnmnloaaWEqStruct
import Derived.Test.YthcnnkajnmnloaaWRepsOne
import Derived.Test.YthcnnkajnmnloaaWInv
import Derived.Test.YthcnnkajnmnloaaWInvWords
import Derived.Test.YthcnnkajnmnloaaWGuard
import Derived.Test.YthcnnkajnmnloaaWNEv
import Derived.Test.YthcnnkajnmnloaaWMore
import Derived.Test.YthcnnkajnmnloaaYWords
namespace Go.Proofs.Ythcnnkajnmnloaa.P
open Go.RowKit Go.Proofs.YthcnnkajnmnloaaW.PrintWords Go.Proofs.YthcnnkajnmnloaaW.PrintLast Go.Proofs.YthcnnkajnmnloaaW.PrintMore
attribute [local go_sem] max2_int min2_int max_two min_two max_three min_three max_four min_four   -- for this text's walks alone
set_option linter.unusedVariables false
set_option linter.unusedSimpArgs false



def errW : Option Int → Value
  | none => .nilIface
  | some c => .iface 0 (.int .i64 c)
theorem errW_none : errW none = .nilIface := rfl
theorem errW_some (c : Int) : errW (some c) = .iface 0 (.int .i64 c) := rfl

theorem info36 : (Try.prog.info? 36).map (fun i => (i.zero, i.size, i.bytes)) = some (some (.int .u32 0), 1, 4) := by kernel_rfl
-- the values' own types

end Go.Proofs.Ythcnnkajnmnloaa.P
