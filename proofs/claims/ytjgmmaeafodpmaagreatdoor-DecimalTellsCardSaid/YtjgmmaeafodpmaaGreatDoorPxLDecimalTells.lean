/- Plain functions: what the Go functions of a package come to. -/
import Derived.Test.YtjgmmaeafodpmaaGreatDoorYWords
import Derived.Test.YtjgmmaeafodpmaaGreatDoorMx
set_option linter.unusedVariables false
set_option linter.unusedSimpArgs false
namespace Go.Proofs.YtjgmmaeafodpmaaGreatDoor.P
open Go.RowKit Go.Proofs.YtjgmmaeafodpmaaGreatDoorW.PrintWords Go.Proofs.YtjgmmaeafodpmaaGreatDoorW.PrintLast Go.Proofs.YtjgmmaeafodpmaaGreatDoorW.PrintMore
mutual
def steelyardlaw10_DecimalTells.j0 : Nat → Int → ByteArray → Bool → Bool → List Int → List Int → Option (Bool)
  | 0, _, _, _, _, _, _ => none
  | k + 1, x1, x2, x25, x1857000, x1857001, x1857002 => if x25 = true then ((steelyardlaw10_wakes.f k).bind fun t1858 => (some t1858)) else ((steelyardkeep_OwnRat.f x1857000 x1857001 x1857002).bind fun bt1859 => ((decimal_Parse.f k x2).bind fun bt1867 => ((steelyardref10_Parse.f k x2).bind fun bt1876 => ((decimal_Down.f k bt1859.1 bt1859.2.1 bt1859.2.2 x1).bind fun bt1885 => ((decimal_Up.f k bt1859.1 bt1859.2.1 bt1859.2.2 x1).bind fun bt1887 => ((decimal_Near.f k bt1859.1 bt1859.2.1 bt1859.2.2 x1).bind fun bt1889 => ((decimal_Floor.f k bt1859.1 bt1859.2.1 bt1859.2.2 x1).bind fun bt1891 => ((decimal_Exact.f k bt1859.1 bt1859.2.1 bt1859.2.2).bind fun t1897 => ((steelyardref10_Exact.f k x1857000 x1857001 x1857002).bind fun t1898 => (if t1897.toList = t1898.toList then ((steelyardkeep_Rat.f k bt1867.1 bt1867.2.1 bt1867.2.2.1 bt1876.1 bt1876.2.1 bt1876.2.2.1).bind fun t1899 => (if t1899 = true then (if bt1867.2.2.2 = bt1876.2.2.2 then ((steelyardkeep_Rat.f k bt1859.1 bt1859.2.1 bt1859.2.2 x1857000 x1857001 x1857002).bind fun t1900 => (steelyardlaw10_DecimalTells.j1 k x1 bt1885.1 bt1885.2 bt1887.1 bt1887.2 bt1889.1 bt1889.2 bt1891.2.2 (!t1900) x1857000 x1857001 x1857002 bt1891.1 bt1891.2.1)) else (steelyardlaw10_DecimalTells.j1 k x1 bt1885.1 bt1885.2 bt1887.1 bt1887.2 bt1889.1 bt1889.2 bt1891.2.2 true x1857000 x1857001 x1857002 bt1891.1 bt1891.2.1)) else (steelyardlaw10_DecimalTells.j1 k x1 bt1885.1 bt1885.2 bt1887.1 bt1887.2 bt1889.1 bt1889.2 bt1891.2.2 true x1857000 x1857001 x1857002 bt1891.1 bt1891.2.1))) else (steelyardlaw10_DecimalTells.j1 k x1 bt1885.1 bt1885.2 bt1887.1 bt1887.2 bt1889.1 bt1889.2 bt1891.2.2 true x1857000 x1857001 x1857002 bt1891.1 bt1891.2.1)))))))))))
def steelyardlaw10_DecimalTells.j1 : Nat → Int → ByteArray → Int → ByteArray → Int → ByteArray → Int → Int → Bool → Bool → List Int → List Int → Bool → List Int → Option (Bool)
  | 0, _, _, _, _, _, _, _, _, _, _, _, _, _, _ => none
  | k + 1, x1, x11, x12, x13, x14, x15, x16, x18, x83, x1857000, x1857001, x1857002, x1897000, x1897001 => if x83 = true then (none) else ((steelyardref10_May.f k x1857000 x1857001 x1857002 x1).bind fun t1901 => (if t1901 = true then (if x12 = 0 then (if x14 = 0 then (if x16 = 0 then (if x18 = 0 then ((steelyardref10_Down.f k x1857000 x1857001 x1857002 x1).bind fun t1903 => (if x11.toList = t1903.toList then ((steelyardref10_Up.f k x1857000 x1857001 x1857002 x1).bind fun t1904 => (if x13.toList = t1904.toList then ((steelyardref10_Near.f k x1857000 x1857001 x1857002 x1).bind fun t1905 => (if x15.toList = t1905.toList then ((steelyardref10_Floor.f k x1857000 x1857001 x1857002 x1).bind fun bt1906 => ((steelyardkeep_Int.f k x1897000 x1897001 bt1906.1 bt1906.2).bind fun t1910 => (if t1910 = true then ((steelyardlaw10_wakes.f k).bind fun t1911 => (some t1911)) else (none)))) else (none))) else (none))) else (none))) else (none)) else (none)) else (none)) else (none)) else (if x12 = 1 then (if x14 = 1 then (if x16 = 1 then (if x18 = 1 then (if x11.toList = ([] : List UInt8) then (if x13.toList = ([] : List UInt8) then (if x15.toList = ([] : List UInt8) then (if (x1897001.length : Int) = 0 then (if x1897000 = true then (none) else ((steelyardlaw10_wakes.f k).bind fun t1902 => (some t1902))) else (none)) else (none)) else (none)) else (none)) else (none)) else (none)) else (none)) else (none))))
end
def steelyardlaw10_DecimalTells.f (k : Nat) (a0_0 : Bool) (l0_1 : List Int) (l0_2 : List Int) (a1 : Int) (a2 : ByteArray) : Option (Bool) := (steelyardlaw07_Long.f a0_0 l0_1 l0_2).bind fun t1857 => (if t1857 = true then (steelyardlaw10_DecimalTells.j0 k a1 a2 true a0_0 l0_1 l0_2) else (steelyardlaw10_DecimalTells.j0 k a1 a2 (decide ((a2.size : Int) > 900)) a0_0 l0_1 l0_2))
theorem steelyardlaw10_DecimalTells.mono_l : ∀ k, (∀ y0 y1 y2 y3 y4 y5, LeO (steelyardlaw10_DecimalTells.j0 k y0 y1 y2 y3 y4 y5) (steelyardlaw10_DecimalTells.j0 (k + 1) y0 y1 y2 y3 y4 y5)) ∧ (∀ y0 y1 y2 y3 y4 y5 y6 y7 y8 y9 y10 y11 y12 y13, LeO (steelyardlaw10_DecimalTells.j1 k y0 y1 y2 y3 y4 y5 y6 y7 y8 y9 y10 y11 y12 y13) (steelyardlaw10_DecimalTells.j1 (k + 1) y0 y1 y2 y3 y4 y5 y6 y7 y8 y9 y10 y11 y12 y13))
  | 0 => ⟨fun _ _ _ _ _ _ r h => by simp [steelyardlaw10_DecimalTells.j0] at h, fun _ _ _ _ _ _ _ _ _ _ _ _ _ _ r h => by simp [steelyardlaw10_DecimalTells.j1] at h⟩
  | k + 1 => by
    obtain ⟨ih0, ih1⟩ := steelyardlaw10_DecimalTells.mono_l k
    refine ⟨?_, ?_⟩
    · intro y0 y1 y2 y3 y4 y5
      unfold steelyardlaw10_DecimalTells.j0
      repeat' first
       | with_reducible first
        | exact ih0 _ _ _ _ _ _
        | exact ih1 _ _ _ _ _ _ _ _ _ _ _ _ _ _
        | exact decimal_Down.mono _ _ _ _ _
        | exact decimal_Exact.mono _ _ _ _
        | exact decimal_Floor.mono _ _ _ _ _
        | exact decimal_Near.mono _ _ _ _ _
        | exact decimal_Parse.mono _ _
        | exact decimal_Up.mono _ _ _ _ _
        | exact steelyardkeep_Int.mono _ _ _ _ _
        | exact steelyardkeep_Rat.mono _ _ _ _ _ _ _
        | exact steelyardlaw10_wakes.mono _
        | exact steelyardref10_Down.mono _ _ _ _ _
        | exact steelyardref10_Exact.mono _ _ _ _
        | exact steelyardref10_Floor.mono _ _ _ _ _
        | exact steelyardref10_May.mono _ _ _ _ _
        | exact steelyardref10_Near.mono _ _ _ _ _
        | exact steelyardref10_Parse.mono _ _
        | exact steelyardref10_Up.mono _ _ _ _ _
        | exact LeO.refl _
        | exact LeO.none _
        | refine LeO.ite ?_ ?_
        | refine LeO.bind ?_ (fun _ => ?_)
       | exact LeO.none _ | refine LeO.ite ?_ ?_ | refine LeO.bind ?_ (fun _ => ?_)
    · intro y0 y1 y2 y3 y4 y5 y6 y7 y8 y9 y10 y11 y12 y13
      unfold steelyardlaw10_DecimalTells.j1
      repeat' first
       | with_reducible first
        | exact ih0 _ _ _ _ _ _
        | exact ih1 _ _ _ _ _ _ _ _ _ _ _ _ _ _
        | exact decimal_Down.mono _ _ _ _ _
        | exact decimal_Exact.mono _ _ _ _
        | exact decimal_Floor.mono _ _ _ _ _
        | exact decimal_Near.mono _ _ _ _ _
        | exact decimal_Parse.mono _ _
        | exact decimal_Up.mono _ _ _ _ _
        | exact steelyardkeep_Int.mono _ _ _ _ _
        | exact steelyardkeep_Rat.mono _ _ _ _ _ _ _
        | exact steelyardlaw10_wakes.mono _
        | exact steelyardref10_Down.mono _ _ _ _ _
        | exact steelyardref10_Exact.mono _ _ _ _
        | exact steelyardref10_Floor.mono _ _ _ _ _
        | exact steelyardref10_May.mono _ _ _ _ _
        | exact steelyardref10_Near.mono _ _ _ _ _
        | exact steelyardref10_Parse.mono _ _
        | exact steelyardref10_Up.mono _ _ _ _ _
        | exact LeO.refl _
        | exact LeO.none _
        | refine LeO.ite ?_ ?_
        | refine LeO.bind ?_ (fun _ => ?_)
       | exact LeO.none _ | refine LeO.ite ?_ ?_ | refine LeO.bind ?_ (fun _ => ?_)
theorem steelyardlaw10_DecimalTells.mono : ∀ a0 a1 a2 a3 a4 k, LeO (steelyardlaw10_DecimalTells.f k a0 a1 a2 a3 a4) (steelyardlaw10_DecimalTells.f (k + 1) a0 a1 a2 a3 a4) := by
  intro a0 a1 a2 a3 a4 k
  obtain ⟨ih0, ih1⟩ := steelyardlaw10_DecimalTells.mono_l k
  unfold steelyardlaw10_DecimalTells.f
  repeat' first
   | with_reducible first
    | exact ih0 _ _ _ _ _ _
    | exact ih1 _ _ _ _ _ _ _ _ _ _ _ _ _ _
    | exact decimal_Down.mono _ _ _ _ _
    | exact decimal_Exact.mono _ _ _ _
    | exact decimal_Floor.mono _ _ _ _ _
    | exact decimal_Near.mono _ _ _ _ _
    | exact decimal_Parse.mono _ _
    | exact decimal_Up.mono _ _ _ _ _
    | exact steelyardkeep_Int.mono _ _ _ _ _
    | exact steelyardkeep_Rat.mono _ _ _ _ _ _ _
    | exact steelyardlaw10_wakes.mono _
    | exact steelyardref10_Down.mono _ _ _ _ _
    | exact steelyardref10_Exact.mono _ _ _ _
    | exact steelyardref10_Floor.mono _ _ _ _ _
    | exact steelyardref10_May.mono _ _ _ _ _
    | exact steelyardref10_Near.mono _ _ _ _ _
    | exact steelyardref10_Parse.mono _ _
    | exact steelyardref10_Up.mono _ _ _ _ _
    | exact LeO.refl _
    | exact LeO.none _
    | refine LeO.ite ?_ ?_
    | refine LeO.bind ?_ (fun _ => ?_)
   | exact LeO.none _ | refine LeO.ite ?_ ?_ | refine LeO.bind ?_ (fun _ => ?_)
end Go.Proofs.YtjgmmaeafodpmaaGreatDoor.P
