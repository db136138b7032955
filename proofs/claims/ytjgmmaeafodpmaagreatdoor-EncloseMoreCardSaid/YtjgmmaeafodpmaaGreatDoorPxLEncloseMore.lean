/- Plain functions: what the Go functions of a package come to. -/
import Derived.Test.YtjgmmaeafodpmaaGreatDoorYWords
import Derived.Test.YtjgmmaeafodpmaaGreatDoorMx
set_option linter.unusedVariables false
set_option linter.unusedSimpArgs false
namespace Go.Proofs.YtjgmmaeafodpmaaGreatDoor.P
open Go.RowKit Go.Proofs.YtjgmmaeafodpmaaGreatDoorW.PrintWords Go.Proofs.YtjgmmaeafodpmaaGreatDoorW.PrintLast Go.Proofs.YtjgmmaeafodpmaaGreatDoorW.PrintMore
def steelyardlaw25_EncloseMore.j0 : Nat → Int → Int → Bool → Bool → List Int → List Int → Option (Bool)
  | 0, _, _, _, _, _, _ => none
  | k + 1, x1, x2, x37, x1383000, x1383001, x1383002 => if x37 = true then ((steelyardlaw25_wakes.f k).bind fun t1385 => (some t1385)) else ((enclose_Root.f k x1383000 x1383001 x1383002 (Int.tmod (wrap64 (x1)) 20)).bind fun bt1386 => ((enclose_Root.f k x1383000 x1383001 x1383002 (wrap64 ((Int.tmod (wrap64 (x1)) 20) + (Int.tmod (wrap64 (x2)) 10)))).bind fun bt1403 => ((steelyardlaw07_By.f k (wrap64 (x2)) 1).bind fun bt1420 => ((steelyardlaw07_By.f k (wrap64 (x2)) 1).bind fun bt1427 => ((steelyardref07_Times.f k bt1420.1 bt1420.2.1 bt1420.2.2 bt1427.1 bt1427.2.1 bt1427.2.2).bind fun bt1434 => ((enclose_Root.f k bt1434.1 bt1434.2.1 bt1434.2.2 (Int.tmod (wrap64 (x1)) 20)).bind fun bt1441 => (if bt1386.2.2.2.2.2.2 = 0 then (if bt1403.2.2.2.2.2.2 = 0 then ((rat_Cmp.f k bt1386.1 bt1386.2.1 bt1386.2.2.1 bt1403.1 bt1403.2.1 bt1403.2.2.1).bind fun t1458 => (if t1458 ≤ 0 then ((rat_Cmp.f k bt1386.2.2.2.1 bt1386.2.2.2.2.1 bt1386.2.2.2.2.2.1 bt1403.2.2.2.1 bt1403.2.2.2.2.1 bt1403.2.2.2.2.2.1).bind fun t1459 => (if t1459 ≥ 0 then (if bt1441.2.2.2.2.2.2 = 0 then ((steelyardlaw07_By.f k (wrap64 (x2)) 1).bind fun bt1460 => ((steelyardkeep_Rat.f k bt1441.1 bt1441.2.1 bt1441.2.2.1 bt1460.1 bt1460.2.1 bt1460.2.2).bind fun t1467 => (if t1467 = true then ((steelyardkeep_Rat.f k bt1441.2.2.2.1 bt1441.2.2.2.2.1 bt1441.2.2.2.2.2.1 bt1441.1 bt1441.2.1 bt1441.2.2.1).bind fun t1468 => (if t1468 = true then ((steelyardlaw25_wakes.f k).bind fun t1469 => (some t1469)) else (none))) else (none)))) else (none)) else (none))) else (none))) else (none)) else (none))))))))
def steelyardlaw25_EncloseMore.f (k : Nat) (a0_0 : Bool) (l0_1 : List Int) (l0_2 : List Int) (a1 : Int) (a2 : Int) : Option (Bool) := (steelyardref07_Good.f k a0_0 l0_1 l0_2).bind fun t1383 => (if t1383 = true then (if (l0_1.length : Int) > 6 then (steelyardlaw25_EncloseMore.j0 k a1 a2 true a0_0 l0_1 l0_2) else (if (l0_2.length : Int) > 6 then (steelyardlaw25_EncloseMore.j0 k a1 a2 true a0_0 l0_1 l0_2) else ((steelyardref07_Sign.f k a0_0 l0_1 l0_2).bind fun t1384 => (steelyardlaw25_EncloseMore.j0 k a1 a2 (decide (t1384 < 0)) a0_0 l0_1 l0_2)))) else (steelyardlaw25_EncloseMore.j0 k a1 a2 true a0_0 l0_1 l0_2))
theorem steelyardlaw25_EncloseMore.mono_l : ∀ k, (∀ y0 y1 y2 y3 y4 y5, LeO (steelyardlaw25_EncloseMore.j0 k y0 y1 y2 y3 y4 y5) (steelyardlaw25_EncloseMore.j0 (k + 1) y0 y1 y2 y3 y4 y5))
  | 0 => fun _ _ _ _ _ _ r h => by simp [steelyardlaw25_EncloseMore.j0] at h
  | k + 1 => by
    have ih0 := steelyardlaw25_EncloseMore.mono_l k
    · intro y0 y1 y2 y3 y4 y5
      unfold steelyardlaw25_EncloseMore.j0
      repeat' first
       | with_reducible first
        | exact ih0 _ _ _ _ _ _
        | exact enclose_Root.mono _ _ _ _ _
        | exact rat_Cmp.mono _ _ _ _ _ _ _
        | exact steelyardkeep_Rat.mono _ _ _ _ _ _ _
        | exact steelyardlaw07_By.mono _ _ _
        | exact steelyardlaw25_wakes.mono _
        | exact steelyardref07_Good.mono _ _ _ _
        | exact steelyardref07_Sign.mono _ _ _ _
        | exact steelyardref07_Times.mono _ _ _ _ _ _ _
        | exact LeO.refl _
        | exact LeO.none _
        | refine LeO.ite ?_ ?_
        | refine LeO.bind ?_ (fun _ => ?_)
       | exact LeO.none _ | refine LeO.ite ?_ ?_ | refine LeO.bind ?_ (fun _ => ?_)
theorem steelyardlaw25_EncloseMore.mono : ∀ a0 a1 a2 a3 a4 k, LeO (steelyardlaw25_EncloseMore.f k a0 a1 a2 a3 a4) (steelyardlaw25_EncloseMore.f (k + 1) a0 a1 a2 a3 a4) := by
  intro a0 a1 a2 a3 a4 k
  have ih0 := steelyardlaw25_EncloseMore.mono_l k
  unfold steelyardlaw25_EncloseMore.f
  repeat' first
   | with_reducible first
    | exact ih0 _ _ _ _ _ _
    | exact enclose_Root.mono _ _ _ _ _
    | exact rat_Cmp.mono _ _ _ _ _ _ _
    | exact steelyardkeep_Rat.mono _ _ _ _ _ _ _
    | exact steelyardlaw07_By.mono _ _ _
    | exact steelyardlaw25_wakes.mono _
    | exact steelyardref07_Good.mono _ _ _ _
    | exact steelyardref07_Sign.mono _ _ _ _
    | exact steelyardref07_Times.mono _ _ _ _ _ _ _
    | exact LeO.refl _
    | exact LeO.none _
    | refine LeO.ite ?_ ?_
    | refine LeO.bind ?_ (fun _ => ?_)
   | exact LeO.none _ | refine LeO.ite ?_ ?_ | refine LeO.bind ?_ (fun _ => ?_)
end Go.Proofs.YtjgmmaeafodpmaaGreatDoor.P
