/- Plain functions: what the Go functions of a package come to. -/
import Derived.Test.YtjgmmaeafodpmaaGreatDoorYWords
import Derived.Test.YtjgmmaeafodpmaaGreatDoorMx
set_option linter.unusedVariables false
set_option linter.unusedSimpArgs false
namespace Go.Proofs.YtjgmmaeafodpmaaGreatDoor.P
open Go.RowKit Go.Proofs.YtjgmmaeafodpmaaGreatDoorW.PrintWords Go.Proofs.YtjgmmaeafodpmaaGreatDoorW.PrintLast Go.Proofs.YtjgmmaeafodpmaaGreatDoorW.PrintMore
mutual
def steelyardlaw10_DecimalNegs.j0 : Nat → Int → Bool → Bool → List Int → List Int → Option (Bool)
  | 0, _, _, _, _, _ => none
  | k + 1, x1, x38, x1969000, x1969001, x1969002 => if x38 = true then ((steelyardlaw10_wakes.f k).bind fun t1970 => (some t1970)) else ((rat_Neg.f k x1969000 x1969001 x1969002).bind fun bt1971 => ((decimal_Down.f k bt1971.1 bt1971.2.1 bt1971.2.2 (Int.tmod (wrap64 (x1)) 20)).bind fun bt1979 => ((decimal_Up.f k x1969000 x1969001 x1969002 (Int.tmod (wrap64 (x1)) 20)).bind fun bt1981 => ((decimal_Near.f k x1969000 x1969001 x1969002 (Int.tmod (wrap64 (x1)) 20)).bind fun bt1983 => ((decimal_Near.f k bt1971.1 bt1971.2.1 bt1971.2.2 (Int.tmod (wrap64 (x1)) 20)).bind fun bt1985 => (if bt1979.2 = 0 then (if bt1981.2 = 0 then (if bt1983.2 = 0 then (steelyardlaw10_DecimalNegs.j1 k (Int.tmod (wrap64 (x1)) 20) bt1979.1 bt1981.1 bt1983.1 bt1985.1 (bt1985.2 != 0)) else (steelyardlaw10_DecimalNegs.j1 k (Int.tmod (wrap64 (x1)) 20) bt1979.1 bt1981.1 bt1983.1 bt1985.1 true)) else (steelyardlaw10_DecimalNegs.j1 k (Int.tmod (wrap64 (x1)) 20) bt1979.1 bt1981.1 bt1983.1 bt1985.1 true)) else (steelyardlaw10_DecimalNegs.j1 k (Int.tmod (wrap64 (x1)) 20) bt1979.1 bt1981.1 bt1983.1 bt1985.1 true)))))))
def steelyardlaw10_DecimalNegs.j1 : Nat → Int → ByteArray → ByteArray → ByteArray → ByteArray → Bool → Option (Bool)
  | 0, _, _, _, _, _, _ => none
  | k + 1, x5, x7, x9, x11, x13, x82 => if x82 = true then (none) else ((steelyardlaw10_number.f k x7 x5).bind fun bt1987 => ((steelyardlaw10_number.f k x9 x5).bind fun bt1996 => ((steelyardlaw10_number.f k x11 x5).bind fun bt2005 => ((steelyardlaw10_number.f k x13 x5).bind fun bt2014 => (if bt1987.2.2.2 = true then (if bt1996.2.2.2 = true then (if bt2005.2.2.2 = true then (if bt2014.2.2.2 = true then ((rat_Neg.f k bt1996.1 bt1996.2.1 bt1996.2.2.1).bind fun bt2023 => ((steelyardkeep_Rat.f k bt1987.1 bt1987.2.1 bt1987.2.2.1 bt2023.1 bt2023.2.1 bt2023.2.2).bind fun t2030 => (if t2030 = true then ((rat_Neg.f k bt2014.1 bt2014.2.1 bt2014.2.2.1).bind fun bt2031 => ((steelyardkeep_Rat.f k bt2005.1 bt2005.2.1 bt2005.2.2.1 bt2031.1 bt2031.2.1 bt2031.2.2).bind fun t2038 => (if t2038 = true then ((steelyardlaw10_wakes.f k).bind fun t2039 => (some t2039)) else (none)))) else (none)))) else (none)) else (none)) else (none)) else (none))))))
end
def steelyardlaw10_DecimalNegs.f (k : Nat) (a0_0 : Bool) (l0_1 : List Int) (l0_2 : List Int) (a1 : Int) : Option (Bool) := (steelyardref07_Good.f k a0_0 l0_1 l0_2).bind fun t1969 => (if t1969 = true then (if (l0_1.length : Int) > 20 then (steelyardlaw10_DecimalNegs.j0 k a1 true a0_0 l0_1 l0_2) else (steelyardlaw10_DecimalNegs.j0 k a1 (decide ((l0_2.length : Int) > 20)) a0_0 l0_1 l0_2)) else (steelyardlaw10_DecimalNegs.j0 k a1 true a0_0 l0_1 l0_2))
theorem steelyardlaw10_DecimalNegs.mono_l : ∀ k, (∀ y0 y1 y2 y3 y4, LeO (steelyardlaw10_DecimalNegs.j0 k y0 y1 y2 y3 y4) (steelyardlaw10_DecimalNegs.j0 (k + 1) y0 y1 y2 y3 y4)) ∧ (∀ y0 y1 y2 y3 y4 y5, LeO (steelyardlaw10_DecimalNegs.j1 k y0 y1 y2 y3 y4 y5) (steelyardlaw10_DecimalNegs.j1 (k + 1) y0 y1 y2 y3 y4 y5))
  | 0 => ⟨fun _ _ _ _ _ r h => by simp [steelyardlaw10_DecimalNegs.j0] at h, fun _ _ _ _ _ _ r h => by simp [steelyardlaw10_DecimalNegs.j1] at h⟩
  | k + 1 => by
    obtain ⟨ih0, ih1⟩ := steelyardlaw10_DecimalNegs.mono_l k
    refine ⟨?_, ?_⟩
    · intro y0 y1 y2 y3 y4
      unfold steelyardlaw10_DecimalNegs.j0
      repeat' first
       | with_reducible first
        | exact ih0 _ _ _ _ _
        | exact ih1 _ _ _ _ _ _
        | exact decimal_Down.mono _ _ _ _ _
        | exact decimal_Near.mono _ _ _ _ _
        | exact decimal_Up.mono _ _ _ _ _
        | exact rat_Neg.mono _ _ _ _
        | exact steelyardkeep_Rat.mono _ _ _ _ _ _ _
        | exact steelyardlaw10_number.mono _ _ _
        | exact steelyardlaw10_wakes.mono _
        | exact steelyardref07_Good.mono _ _ _ _
        | exact LeO.refl _
        | exact LeO.none _
        | refine LeO.ite ?_ ?_
        | refine LeO.bind ?_ (fun _ => ?_)
       | exact LeO.none _ | refine LeO.ite ?_ ?_ | refine LeO.bind ?_ (fun _ => ?_)
    · intro y0 y1 y2 y3 y4 y5
      unfold steelyardlaw10_DecimalNegs.j1
      repeat' first
       | with_reducible first
        | exact ih0 _ _ _ _ _
        | exact ih1 _ _ _ _ _ _
        | exact decimal_Down.mono _ _ _ _ _
        | exact decimal_Near.mono _ _ _ _ _
        | exact decimal_Up.mono _ _ _ _ _
        | exact rat_Neg.mono _ _ _ _
        | exact steelyardkeep_Rat.mono _ _ _ _ _ _ _
        | exact steelyardlaw10_number.mono _ _ _
        | exact steelyardlaw10_wakes.mono _
        | exact steelyardref07_Good.mono _ _ _ _
        | exact LeO.refl _
        | exact LeO.none _
        | refine LeO.ite ?_ ?_
        | refine LeO.bind ?_ (fun _ => ?_)
       | exact LeO.none _ | refine LeO.ite ?_ ?_ | refine LeO.bind ?_ (fun _ => ?_)
theorem steelyardlaw10_DecimalNegs.mono : ∀ a0 a1 a2 a3 k, LeO (steelyardlaw10_DecimalNegs.f k a0 a1 a2 a3) (steelyardlaw10_DecimalNegs.f (k + 1) a0 a1 a2 a3) := by
  intro a0 a1 a2 a3 k
  obtain ⟨ih0, ih1⟩ := steelyardlaw10_DecimalNegs.mono_l k
  unfold steelyardlaw10_DecimalNegs.f
  repeat' first
   | with_reducible first
    | exact ih0 _ _ _ _ _
    | exact ih1 _ _ _ _ _ _
    | exact decimal_Down.mono _ _ _ _ _
    | exact decimal_Near.mono _ _ _ _ _
    | exact decimal_Up.mono _ _ _ _ _
    | exact rat_Neg.mono _ _ _ _
    | exact steelyardkeep_Rat.mono _ _ _ _ _ _ _
    | exact steelyardlaw10_number.mono _ _ _
    | exact steelyardlaw10_wakes.mono _
    | exact steelyardref07_Good.mono _ _ _ _
    | exact LeO.refl _
    | exact LeO.none _
    | refine LeO.ite ?_ ?_
    | refine LeO.bind ?_ (fun _ => ?_)
   | exact LeO.none _ | refine LeO.ite ?_ ?_ | refine LeO.bind ?_ (fun _ => ?_)
end Go.Proofs.YtjgmmaeafodpmaaGreatDoor.P
