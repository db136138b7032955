/- Plain functions: what the Go functions of a package come to. -/
import Derived.Test.YtnilfndadahgaaaDoorYWords
import Derived.Test.YtnilfndadahgaaaDoorMx
set_option linter.unusedVariables false
set_option linter.unusedSimpArgs false
namespace Go.Proofs.YtnilfndadahgaaaDoor.P
open Go.RowKit Go.Proofs.YtnilfndadahgaaaDoorW.PrintWords Go.Proofs.YtnilfndadahgaaaDoorW.PrintLast Go.Proofs.YtnilfndadahgaaaDoorW.PrintMore
def steelyardlaw09_LiteralParts.f (k : Nat) (a0 : Int) (a1 : Int) : Option (Bool) := (steelyardlaw09_dec.f k (wrap64 (a0))).bind fun t1573 => ((steelyardlaw09_dec.f k (wrap64 (a1))).bind fun t1574 => (if t1573.size + 1 ≤ 9223372036854775807 then (if (t1573 ++ (⟨#[46]⟩ : ByteArray)).size + t1574.size ≤ 9223372036854775807 then ((literal_Parse.f k ((t1573 ++ (⟨#[46]⟩ : ByteArray)) ++ t1574)).bind fun bt1575 => ((literal_Parse.f k t1573).bind fun bt1584 => (if 2 + t1574.size ≤ 9223372036854775807 then ((literal_Parse.f k ((⟨#[48, 46]⟩ : ByteArray) ++ t1574)).bind fun bt1593 => ((rat_Add.f k bt1584.1 bt1584.2.1 bt1584.2.2.1 bt1593.1 bt1593.2.1 bt1593.2.2.1).bind fun bt1602 => (if t1573.size + 2 ≤ 9223372036854775807 then ((literal_Parse.f k (t1573 ++ (⟨#[101, 48]⟩ : ByteArray))).bind fun bt1611 => (if bt1575.2.2.2 = 0 then (if bt1584.2.2.2 = 0 then (if bt1593.2.2.2 = 0 then (if bt1602.2.2.2 = 0 then (if bt1611.2.2.2 = 0 then ((steelyardkeep_Rat.f k bt1575.1 bt1575.2.1 bt1575.2.2.1 bt1602.1 bt1602.2.1 bt1602.2.2.1).bind fun t1620 => (if t1620 = true then ((steelyardlaw07_By.f k (wrap64 (a0)) 1).bind fun bt1621 => ((steelyardkeep_Rat.f k bt1584.1 bt1584.2.1 bt1584.2.2.1 bt1621.1 bt1621.2.1 bt1621.2.2).bind fun t1628 => (if t1628 = true then ((steelyardkeep_Rat.f k bt1611.1 bt1611.2.1 bt1611.2.2.1 bt1584.1 bt1584.2.1 bt1584.2.2.1).bind fun t1629 => (if t1629 = true then ((steelyardlaw09_wakes.f k).bind fun t1630 => (some t1630)) else (none))) else (none)))) else (none))) else (none)) else (none)) else (none)) else (none)) else (none))) else (none)))) else (none)))) else (none)) else (none)))
theorem steelyardlaw09_LiteralParts.mono : ∀ a0 a1 k, LeO (steelyardlaw09_LiteralParts.f k a0 a1) (steelyardlaw09_LiteralParts.f (k + 1) a0 a1) := by
  intro a0 a1 k
  unfold steelyardlaw09_LiteralParts.f
  repeat' first
      | (with_reducible exact literal_Parse.mono _ _)
      | (with_reducible exact rat_Add.mono _ _ _ _ _ _ _)
      | (with_reducible exact steelyardkeep_Rat.mono _ _ _ _ _ _ _)
      | (with_reducible exact steelyardlaw07_By.mono _ _ _)
      | (with_reducible exact steelyardlaw09_dec.mono _ _)
      | (with_reducible exact steelyardlaw09_wakes.mono _)
      | (with_reducible exact LeO.refl _)
      | (with_reducible exact LeO.none _)
      | (with_reducible refine LeO.ite ?_ ?_)
      | (with_reducible refine LeO.bind ?_ (fun _ => ?_))
      | exact literal_Parse.mono _ _
      | exact rat_Add.mono _ _ _ _ _ _ _
      | exact steelyardkeep_Rat.mono _ _ _ _ _ _ _
      | exact steelyardlaw07_By.mono _ _ _
      | exact steelyardlaw09_dec.mono _ _
      | exact steelyardlaw09_wakes.mono _
      | exact LeO.none _
      | refine LeO.ite ?_ ?_
      | refine LeO.bind ?_ (fun _ => ?_)
end Go.Proofs.YtnilfndadahgaaaDoor.P
