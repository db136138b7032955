/- Plain functions: what the Go functions of a package come to. -/
import Derived.Test.YtnilfndadahgaaaDoorYWords
import Derived.Test.YtnilfndadahgaaaDoorMx
set_option linter.unusedVariables false
set_option linter.unusedSimpArgs false
namespace Go.Proofs.YtnilfndadahgaaaDoor.P
open Go.RowKit Go.Proofs.YtnilfndadahgaaaDoorW.PrintWords Go.Proofs.YtnilfndadahgaaaDoorW.PrintLast Go.Proofs.YtnilfndadahgaaaDoorW.PrintMore
def steelyardlaw09_LiteralLongest.j0 : Nat → ByteArray → ByteArray → Bool → Option (Bool)
  | 0, _, _, _ => none
  | k + 1, x0, x1, x13 => if x13 = true then ((steelyardlaw09_wakes.f k).bind fun t1509 => (some t1509)) else ((steelyardref09_Good.f k x0).bind fun t1510 => (if t1510 = true then ((literal_Good.f k x0).bind fun t1515 => (if t1515 = true then ((literal_Length.f k x0).bind fun t1516 => (if t1516 = (x0.size : Int) then (if x0.size + 1 ≤ 9223372036854775807 then (if (x0 ++ (⟨#[32]⟩ : ByteArray)).size + x1.size ≤ 9223372036854775807 then ((literal_Length.f k ((x0 ++ (⟨#[32]⟩ : ByteArray)) ++ x1)).bind fun t1517 => (if t1517 = (x0.size : Int) then (if (x0 ++ (⟨#[120]⟩ : ByteArray)).size + x1.size ≤ 9223372036854775807 then ((literal_Length.f k ((x0 ++ (⟨#[120]⟩ : ByteArray)) ++ x1)).bind fun t1518 => (if t1518 = (x0.size : Int) then ((steelyardlaw09_wakes.f k).bind fun t1519 => (some t1519)) else (none))) else (none)) else (none))) else (none)) else (none)) else (none))) else (none))) else ((literal_Length.f k x0).bind fun t1511 => (if t1511 ≥ 0 then (if t1511 ≤ (x0.size : Int) then (if t1511 = 0 then ((steelyardlaw09_wakes.f k).bind fun t1512 => (some t1512)) else (if 0 ≤ t1511 then ((literal_Good.f k (x0.extract 0 (t1511 : Int).toNat)).bind fun t1513 => (if t1513 = true then ((steelyardlaw09_wakes.f k).bind fun t1514 => (some t1514)) else (none))) else (none))) else (none)) else (none)))))
def steelyardlaw09_LiteralLongest.f (k : Nat) (a0 : ByteArray) (a1 : ByteArray) : Option (Bool) := if (a0.size : Int) > 390 then (steelyardlaw09_LiteralLongest.j0 k a0 a1 true) else (steelyardlaw09_LiteralLongest.j0 k a0 a1 (decide ((a1.size : Int) > 300)))
theorem steelyardlaw09_LiteralLongest.mono_l : ∀ k, (∀ y0 y1 y2, LeO (steelyardlaw09_LiteralLongest.j0 k y0 y1 y2) (steelyardlaw09_LiteralLongest.j0 (k + 1) y0 y1 y2))
  | 0 => fun _ _ _ r h => by simp [steelyardlaw09_LiteralLongest.j0] at h
  | k + 1 => by
    have ih0 := steelyardlaw09_LiteralLongest.mono_l k
    · intro y0 y1 y2
      unfold steelyardlaw09_LiteralLongest.j0
      repeat' first
      | (with_reducible exact ih0 _ _ _)
      | (with_reducible exact literal_Good.mono _ _)
      | (with_reducible exact literal_Length.mono _ _)
      | (with_reducible exact steelyardlaw09_wakes.mono _)
      | (with_reducible exact steelyardref09_Good.mono _ _)
      | (with_reducible exact LeO.refl _)
      | (with_reducible exact LeO.none _)
      | (with_reducible refine LeO.ite ?_ ?_)
      | (with_reducible refine LeO.bind ?_ (fun _ => ?_))
      | exact ih0 _ _ _
      | exact literal_Good.mono _ _
      | exact literal_Length.mono _ _
      | exact steelyardlaw09_wakes.mono _
      | exact steelyardref09_Good.mono _ _
      | exact LeO.none _
      | refine LeO.ite ?_ ?_
      | refine LeO.bind ?_ (fun _ => ?_)
theorem steelyardlaw09_LiteralLongest.mono : ∀ a0 a1 k, LeO (steelyardlaw09_LiteralLongest.f k a0 a1) (steelyardlaw09_LiteralLongest.f (k + 1) a0 a1) := by
  intro a0 a1 k
  have ih0 := steelyardlaw09_LiteralLongest.mono_l k
  unfold steelyardlaw09_LiteralLongest.f
  repeat' first
      | (with_reducible exact ih0 _ _ _)
      | (with_reducible exact literal_Good.mono _ _)
      | (with_reducible exact literal_Length.mono _ _)
      | (with_reducible exact steelyardlaw09_wakes.mono _)
      | (with_reducible exact steelyardref09_Good.mono _ _)
      | (with_reducible exact LeO.refl _)
      | (with_reducible exact LeO.none _)
      | (with_reducible refine LeO.ite ?_ ?_)
      | (with_reducible refine LeO.bind ?_ (fun _ => ?_))
      | exact ih0 _ _ _
      | exact literal_Good.mono _ _
      | exact literal_Length.mono _ _
      | exact steelyardlaw09_wakes.mono _
      | exact steelyardref09_Good.mono _ _
      | exact LeO.none _
      | refine LeO.ite ?_ ?_
      | refine LeO.bind ?_ (fun _ => ?_)
end Go.Proofs.YtnilfndadahgaaaDoor.P
