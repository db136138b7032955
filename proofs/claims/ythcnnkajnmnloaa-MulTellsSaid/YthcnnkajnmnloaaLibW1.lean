/- The look whether package nat wakes: it does. -/
import Derived.Test.YthcnnkajnmnloaaLibN
import Derived.Test.YthcnnkajnmnloaaPxsteelyardlaw01
set_option linter.unusedVariables false
set_option linter.unusedSimpArgs false
namespace Go.Proofs.Ythcnnkajnmnloaa.Lib
open Go.RowKit Go.Proofs.YthcnnkajnmnloaaW.PrintWords Go.Proofs.YthcnnkajnmnloaaW.PrintMore Go.Proofs.Ythcnnkajnmnloaa.P
theorem wakes1 : Ev (fun k => steelyardlaw01_wakes.f k) true := Ev.of (k := 100) (fun k => steelyardlaw01_wakes.mono k) (by decide +kernel)
theorem long_spec (l : List Int) : steelyardlaw01_Long.f l = some (decide ((l.length : Int) > 300)) := rfl
end Go.Proofs.Ythcnnkajnmnloaa.Lib
