/- The look whether package root wakes: it does. -/
import Derived.Test.YtijjnjdfdoaafaaLibR
import Derived.Test.YtijjnjdfdoaafaaPxsteelyardlaw04
set_option linter.unusedVariables false
set_option linter.unusedSimpArgs false
namespace Go.Proofs.Ytijjnjdfdoaafaa.Lib
open Go.RowKit Go.Proofs.YtijjnjdfdoaafaaW.PrintWords Go.Proofs.YtijjnjdfdoaafaaW.PrintMore Go.Proofs.Ytijjnjdfdoaafaa.P
theorem wakes4 : Ev (fun k => steelyardlaw04_wakes.f k) true := Ev.of (k := 100) (fun k => steelyardlaw04_wakes.mono k) (by decide +kernel)
theorem L_iff {x y : Nat} : L x = L y ↔ x = y := ⟨fun h => by have := congrArg V h; rw [V_L, V_L] at this; exact this, fun h => by rw [h]⟩
end Go.Proofs.Ytijjnjdfdoaafaa.Lib
