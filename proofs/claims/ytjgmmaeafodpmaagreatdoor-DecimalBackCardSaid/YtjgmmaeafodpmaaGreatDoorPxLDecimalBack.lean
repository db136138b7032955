/- Plain functions: what the Go functions of a package come to. -/
import Derived.Test.YtjgmmaeafodpmaaGreatDoorYWords
import Derived.Test.YtjgmmaeafodpmaaGreatDoorMx
set_option linter.unusedVariables false
set_option linter.unusedSimpArgs false
namespace Go.Proofs.YtjgmmaeafodpmaaGreatDoor.P
open Go.RowKit Go.Proofs.YtjgmmaeafodpmaaGreatDoorW.PrintWords Go.Proofs.YtjgmmaeafodpmaaGreatDoorW.PrintLast Go.Proofs.YtjgmmaeafodpmaaGreatDoorW.PrintMore
def steelyardlaw10_DecimalBack.j0 : Nat → Bool → Bool → List Int → List Int → Bool → List Int → List Int → Option (Bool)
  | 0, _, _, _, _, _, _, _ => none
  | k + 1, x24, x1913000, x1913001, x1913002, x1914000, x1914001, x1914002 => if x24 = true then ((steelyardlaw10_wakes.f k).bind fun t1918 => (some t1918)) else ((decimal_Exact.f k x1913000 x1913001 x1913002).bind fun t1919 => ((decimal_Exact.f k x1914000 x1914001 x1914002).bind fun t1920 => ((decimal_Parse.f k t1919).bind fun bt1921 => (if bt1921.2.2.2 = 0 then ((steelyardkeep_Rat.f k bt1921.1 bt1921.2.1 bt1921.2.2.1 x1913000 x1913001 x1913002).bind fun t1930 => (if t1930 = true then ((steelyardkeep_Rat.f k x1913000 x1913001 x1913002 x1914000 x1914001 x1914002).bind fun t1931 => (if ((t1919.toList == t1920.toList) == t1931) = true then ((steelyardlaw10_wakes.f k).bind fun t1932 => (some t1932)) else (none))) else (none))) else (none)))))
def steelyardlaw10_DecimalBack.f (k : Nat) (a0_0 : Bool) (l0_1 : List Int) (l0_2 : List Int) (a1_0 : Bool) (l1_1 : List Int) (l1_2 : List Int) : Option (Bool) := (steelyardlaw07_Long.f a0_0 l0_1 l0_2).bind fun t1914 => (if t1914 = true then (steelyardlaw10_DecimalBack.j0 k true a0_0 l0_1 l0_2 a1_0 l1_1 l1_2) else ((steelyardlaw07_Long.f a1_0 l1_1 l1_2).bind fun t1915 => (if t1915 = true then (steelyardlaw10_DecimalBack.j0 k true a0_0 l0_1 l0_2 a1_0 l1_1 l1_2) else ((steelyardref07_Good.f k a0_0 l0_1 l0_2).bind fun t1916 => (if t1916 = true then ((steelyardref07_Good.f k a1_0 l1_1 l1_2).bind fun t1917 => (steelyardlaw10_DecimalBack.j0 k (!t1917) a0_0 l0_1 l0_2 a1_0 l1_1 l1_2)) else (steelyardlaw10_DecimalBack.j0 k true a0_0 l0_1 l0_2 a1_0 l1_1 l1_2))))))
theorem steelyardlaw10_DecimalBack.mono_l : ∀ k, (∀ y0 y1 y2 y3 y4 y5 y6, LeO (steelyardlaw10_DecimalBack.j0 k y0 y1 y2 y3 y4 y5 y6) (steelyardlaw10_DecimalBack.j0 (k + 1) y0 y1 y2 y3 y4 y5 y6))
  | 0 => fun _ _ _ _ _ _ _ r h => by simp [steelyardlaw10_DecimalBack.j0] at h
  | k + 1 => by
    have ih0 := steelyardlaw10_DecimalBack.mono_l k
    · intro y0 y1 y2 y3 y4 y5 y6
      unfold steelyardlaw10_DecimalBack.j0
      repeat' first
       | with_reducible first
        | exact ih0 _ _ _ _ _ _ _
        | exact decimal_Exact.mono _ _ _ _
        | exact decimal_Parse.mono _ _
        | exact steelyardkeep_Rat.mono _ _ _ _ _ _ _
        | exact steelyardlaw10_wakes.mono _
        | exact steelyardref07_Good.mono _ _ _ _
        | exact LeO.refl _
        | exact LeO.none _
        | refine LeO.ite ?_ ?_
        | refine LeO.bind ?_ (fun _ => ?_)
       | exact LeO.none _ | refine LeO.ite ?_ ?_ | refine LeO.bind ?_ (fun _ => ?_)
theorem steelyardlaw10_DecimalBack.mono : ∀ a0 a1 a2 a3 a4 a5 k, LeO (steelyardlaw10_DecimalBack.f k a0 a1 a2 a3 a4 a5) (steelyardlaw10_DecimalBack.f (k + 1) a0 a1 a2 a3 a4 a5) := by
  intro a0 a1 a2 a3 a4 a5 k
  have ih0 := steelyardlaw10_DecimalBack.mono_l k
  unfold steelyardlaw10_DecimalBack.f
  repeat' first
   | with_reducible first
    | exact ih0 _ _ _ _ _ _ _
    | exact decimal_Exact.mono _ _ _ _
    | exact decimal_Parse.mono _ _
    | exact steelyardkeep_Rat.mono _ _ _ _ _ _ _
    | exact steelyardlaw10_wakes.mono _
    | exact steelyardref07_Good.mono _ _ _ _
    | exact LeO.refl _
    | exact LeO.none _
    | refine LeO.ite ?_ ?_
    | refine LeO.bind ?_ (fun _ => ?_)
   | exact LeO.none _ | refine LeO.ite ?_ ?_ | refine LeO.bind ?_ (fun _ => ?_)
end Go.Proofs.YtjgmmaeafodpmaaGreatDoor.P
