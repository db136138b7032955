/- A number of one's own is the number. -/
import Derived.Test.YtijjnjdfdoaafaaDoorLibN
set_option linter.unusedVariables false
set_option linter.unusedSimpArgs false
namespace Go.Proofs.YtijjnjdfdoaafaaDoor.Lib
open Go.RowKit Go.Proofs.YtijjnjdfdoaafaaDoorW.PrintWords Go.Proofs.YtijjnjdfdoaafaaDoorW.PrintMore Go.Proofs.YtijjnjdfdoaafaaDoor.P
theorem OwnNat_spec {l : List Int} (h : l.length ≤ 1000000) : steelyardkeep_OwnNat.f l = some l := by
  unfold steelyardkeep_OwnNat.f
  simp only [Option.bind_some, List.nil_append, List.length_nil]
  rw [if_pos (by omega)]
end Go.Proofs.YtijjnjdfdoaafaaDoor.Lib
