/- Plain functions: what the Go functions of a package come to. -/
import Derived.Test.YtnilfndadahgaaaDoorYWords
import Derived.Test.YtnilfndadahgaaaDoorMx
set_option linter.unusedVariables false
set_option linter.unusedSimpArgs false
namespace Go.Proofs.YtnilfndadahgaaaDoor.P
open Go.RowKit Go.Proofs.YtnilfndadahgaaaDoorW.PrintWords Go.Proofs.YtnilfndadahgaaaDoorW.PrintLast Go.Proofs.YtnilfndadahgaaaDoorW.PrintMore
def steelyardlaw09_LiteralTells.f (k : Nat) (a0 : ByteArray) : Option (Bool) := if (a0.size : Int) > 1000 then ((steelyardlaw09_wakes.f k).bind fun t1484 => (some t1484)) else ((literal_Parse.f k a0).bind fun bt1485 => ((steelyardref09_Parse.f k a0).bind fun bt1494 => ((literal_Good.f k a0).bind fun t1503 => ((steelyardref09_Good.f k a0).bind fun t1504 => (if (t1503 == t1504) = true then ((literal_Length.f k a0).bind fun t1505 => ((steelyardref09_Length.f k a0).bind fun t1506 => (if t1505 = t1506 then ((steelyardkeep_Rat.f k bt1485.1 bt1485.2.1 bt1485.2.2.1 bt1494.1 bt1494.2.1 bt1494.2.2.1).bind fun t1507 => (if t1507 = true then (if bt1485.2.2.2 = bt1494.2.2.2 then ((steelyardlaw09_wakes.f k).bind fun t1508 => (some t1508)) else (none)) else (none))) else (none)))) else (none))))))
theorem steelyardlaw09_LiteralTells.mono : ∀ a0 k, LeO (steelyardlaw09_LiteralTells.f k a0) (steelyardlaw09_LiteralTells.f (k + 1) a0) := by
  intro a0 k
  unfold steelyardlaw09_LiteralTells.f
  repeat' first
      | (with_reducible exact literal_Good.mono _ _)
      | (with_reducible exact literal_Length.mono _ _)
      | (with_reducible exact literal_Parse.mono _ _)
      | (with_reducible exact steelyardkeep_Rat.mono _ _ _ _ _ _ _)
      | (with_reducible exact steelyardlaw09_wakes.mono _)
      | (with_reducible exact steelyardref09_Good.mono _ _)
      | (with_reducible exact steelyardref09_Length.mono _ _)
      | (with_reducible exact steelyardref09_Parse.mono _ _)
      | (with_reducible exact LeO.refl _)
      | (with_reducible exact LeO.none _)
      | (with_reducible refine LeO.ite ?_ ?_)
      | (with_reducible refine LeO.bind ?_ (fun _ => ?_))
      | exact literal_Good.mono _ _
      | exact literal_Length.mono _ _
      | exact literal_Parse.mono _ _
      | exact steelyardkeep_Rat.mono _ _ _ _ _ _ _
      | exact steelyardlaw09_wakes.mono _
      | exact steelyardref09_Good.mono _ _
      | exact steelyardref09_Length.mono _ _
      | exact steelyardref09_Parse.mono _ _
      | exact LeO.none _
      | refine LeO.ite ?_ ?_
      | refine LeO.bind ?_ (fun _ => ?_)
end Go.Proofs.YtnilfndadahgaaaDoor.P
