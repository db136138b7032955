/- Plain functions: what the Go functions of a package come to. -/
import Derived.Test.YtjgmmaeafodpmaaGreatDoorYWords
import Derived.Test.YtjgmmaeafodpmaaGreatDoorMx
set_option linter.unusedVariables false
set_option linter.unusedSimpArgs false
namespace Go.Proofs.YtjgmmaeafodpmaaGreatDoor.P
open Go.RowKit Go.Proofs.YtjgmmaeafodpmaaGreatDoorW.PrintWords Go.Proofs.YtjgmmaeafodpmaaGreatDoorW.PrintLast Go.Proofs.YtjgmmaeafodpmaaGreatDoorW.PrintMore
mutual
def steelyardlaw10_DecimalOrder.j0 : Nat → Int → Bool → Bool → List Int → List Int → Bool → List Int → List Int → Option (Bool)
  | 0, _, _, _, _, _, _, _, _ => none
  | k + 1, x2, x47, x2093000, x2093001, x2093002, x2094000, x2094001, x2094002 => if x47 = true then ((steelyardlaw10_wakes.f k).bind fun t2096 => (some t2096)) else ((rat_Cmp.f k x2093000 x2093001 x2093002 x2094000 x2094001 x2094002).bind fun t2097 => (if t2097 > 0 then (steelyardlaw10_DecimalOrder.j1 k (Int.tmod (wrap64 (x2)) 20) x2094000 x2094001 x2094002 x2093000 x2093001 x2093002) else (steelyardlaw10_DecimalOrder.j1 k (Int.tmod (wrap64 (x2)) 20) x2093000 x2093001 x2093002 x2094000 x2094001 x2094002)))
def steelyardlaw10_DecimalOrder.j1 : Nat → Int → Bool → List Int → List Int → Bool → List Int → List Int → Option (Bool)
  | 0, _, _, _, _, _, _, _ => none
  | k + 1, x7, x2093000, x2093001, x2093002, x2094000, x2094001, x2094002 => (decimal_Down.f k x2093000 x2093001 x2093002 x7).bind fun bt2098 => ((decimal_Down.f k x2094000 x2094001 x2094002 x7).bind fun bt2100 => ((decimal_Up.f k x2093000 x2093001 x2093002 x7).bind fun bt2102 => ((decimal_Up.f k x2094000 x2094001 x2094002 x7).bind fun bt2104 => ((decimal_Near.f k x2093000 x2093001 x2093002 x7).bind fun bt2106 => ((decimal_Near.f k x2094000 x2094001 x2094002 x7).bind fun bt2108 => (if bt2098.2 = 0 then (if bt2100.2 = 0 then (if bt2102.2 = 0 then (if bt2104.2 = 0 then (if bt2106.2 = 0 then (steelyardlaw10_DecimalOrder.j2 k x7 bt2098.1 bt2100.1 bt2102.1 bt2104.1 bt2106.1 bt2108.1 (bt2108.2 != 0)) else (none)) else (none)) else (none)) else (none)) else (none)))))))
def steelyardlaw10_DecimalOrder.j2 : Nat → Int → ByteArray → ByteArray → ByteArray → ByteArray → ByteArray → ByteArray → Bool → Option (Bool)
  | 0, _, _, _, _, _, _, _, _ => none
  | k + 1, x7, x8, x10, x12, x14, x16, x18, x115 => if x115 = true then (none) else ((steelyardlaw10_below.f k x8 x10 x7).bind fun t2110 => (if t2110 = true then ((steelyardlaw10_below.f k x12 x14 x7).bind fun t2111 => (if t2111 = true then ((steelyardlaw10_below.f k x16 x18 x7).bind fun t2112 => (if t2112 = true then ((steelyardlaw10_wakes.f k).bind fun t2113 => (some t2113)) else (none))) else (none))) else (none)))
end
def steelyardlaw10_DecimalOrder.f (k : Nat) (a0_0 : Bool) (l0_1 : List Int) (l0_2 : List Int) (a1_0 : Bool) (l1_1 : List Int) (l1_2 : List Int) (a2 : Int) : Option (Bool) := (steelyardref07_Good.f k a0_0 l0_1 l0_2).bind fun t2094 => (if t2094 = true then ((steelyardref07_Good.f k a1_0 l1_1 l1_2).bind fun t2095 => (if t2095 = true then (steelyardlaw10_DecimalOrder.j0 k a2 (decide ((wrap64 ((wrap64 ((wrap64 ((l0_1.length : Int) + (l1_1.length : Int))) + (l0_2.length : Int))) + (l1_2.length : Int))) > 40)) a0_0 l0_1 l0_2 a1_0 l1_1 l1_2) else (steelyardlaw10_DecimalOrder.j0 k a2 true a0_0 l0_1 l0_2 a1_0 l1_1 l1_2))) else (steelyardlaw10_DecimalOrder.j0 k a2 true a0_0 l0_1 l0_2 a1_0 l1_1 l1_2))
theorem steelyardlaw10_DecimalOrder.mono_l : ∀ k, (∀ y0 y1 y2 y3 y4 y5 y6 y7, LeO (steelyardlaw10_DecimalOrder.j0 k y0 y1 y2 y3 y4 y5 y6 y7) (steelyardlaw10_DecimalOrder.j0 (k + 1) y0 y1 y2 y3 y4 y5 y6 y7)) ∧ (∀ y0 y1 y2 y3 y4 y5 y6, LeO (steelyardlaw10_DecimalOrder.j1 k y0 y1 y2 y3 y4 y5 y6) (steelyardlaw10_DecimalOrder.j1 (k + 1) y0 y1 y2 y3 y4 y5 y6)) ∧ (∀ y0 y1 y2 y3 y4 y5 y6 y7, LeO (steelyardlaw10_DecimalOrder.j2 k y0 y1 y2 y3 y4 y5 y6 y7) (steelyardlaw10_DecimalOrder.j2 (k + 1) y0 y1 y2 y3 y4 y5 y6 y7))
  | 0 => ⟨fun _ _ _ _ _ _ _ _ r h => by simp [steelyardlaw10_DecimalOrder.j0] at h, fun _ _ _ _ _ _ _ r h => by simp [steelyardlaw10_DecimalOrder.j1] at h, fun _ _ _ _ _ _ _ _ r h => by simp [steelyardlaw10_DecimalOrder.j2] at h⟩
  | k + 1 => by
    obtain ⟨ih0, ih1, ih2⟩ := steelyardlaw10_DecimalOrder.mono_l k
    refine ⟨?_, ?_, ?_⟩
    · intro y0 y1 y2 y3 y4 y5 y6 y7
      unfold steelyardlaw10_DecimalOrder.j0
      repeat' first
       | with_reducible first
        | exact ih0 _ _ _ _ _ _ _ _
        | exact ih1 _ _ _ _ _ _ _
        | exact ih2 _ _ _ _ _ _ _ _
        | exact decimal_Down.mono _ _ _ _ _
        | exact decimal_Near.mono _ _ _ _ _
        | exact decimal_Up.mono _ _ _ _ _
        | exact rat_Cmp.mono _ _ _ _ _ _ _
        | exact steelyardlaw10_below.mono _ _ _ _
        | exact steelyardlaw10_wakes.mono _
        | exact steelyardref07_Good.mono _ _ _ _
        | exact LeO.refl _
        | exact LeO.none _
        | refine LeO.ite ?_ ?_
        | refine LeO.bind ?_ (fun _ => ?_)
       | exact LeO.none _ | refine LeO.ite ?_ ?_ | refine LeO.bind ?_ (fun _ => ?_)
    · intro y0 y1 y2 y3 y4 y5 y6
      unfold steelyardlaw10_DecimalOrder.j1
      repeat' first
       | with_reducible first
        | exact ih0 _ _ _ _ _ _ _ _
        | exact ih1 _ _ _ _ _ _ _
        | exact ih2 _ _ _ _ _ _ _ _
        | exact decimal_Down.mono _ _ _ _ _
        | exact decimal_Near.mono _ _ _ _ _
        | exact decimal_Up.mono _ _ _ _ _
        | exact rat_Cmp.mono _ _ _ _ _ _ _
        | exact steelyardlaw10_below.mono _ _ _ _
        | exact steelyardlaw10_wakes.mono _
        | exact steelyardref07_Good.mono _ _ _ _
        | exact LeO.refl _
        | exact LeO.none _
        | refine LeO.ite ?_ ?_
        | refine LeO.bind ?_ (fun _ => ?_)
       | exact LeO.none _ | refine LeO.ite ?_ ?_ | refine LeO.bind ?_ (fun _ => ?_)
    · intro y0 y1 y2 y3 y4 y5 y6 y7
      unfold steelyardlaw10_DecimalOrder.j2
      repeat' first
       | with_reducible first
        | exact ih0 _ _ _ _ _ _ _ _
        | exact ih1 _ _ _ _ _ _ _
        | exact ih2 _ _ _ _ _ _ _ _
        | exact decimal_Down.mono _ _ _ _ _
        | exact decimal_Near.mono _ _ _ _ _
        | exact decimal_Up.mono _ _ _ _ _
        | exact rat_Cmp.mono _ _ _ _ _ _ _
        | exact steelyardlaw10_below.mono _ _ _ _
        | exact steelyardlaw10_wakes.mono _
        | exact steelyardref07_Good.mono _ _ _ _
        | exact LeO.refl _
        | exact LeO.none _
        | refine LeO.ite ?_ ?_
        | refine LeO.bind ?_ (fun _ => ?_)
       | exact LeO.none _ | refine LeO.ite ?_ ?_ | refine LeO.bind ?_ (fun _ => ?_)
theorem steelyardlaw10_DecimalOrder.mono : ∀ a0 a1 a2 a3 a4 a5 a6 k, LeO (steelyardlaw10_DecimalOrder.f k a0 a1 a2 a3 a4 a5 a6) (steelyardlaw10_DecimalOrder.f (k + 1) a0 a1 a2 a3 a4 a5 a6) := by
  intro a0 a1 a2 a3 a4 a5 a6 k
  obtain ⟨ih0, ih1, ih2⟩ := steelyardlaw10_DecimalOrder.mono_l k
  unfold steelyardlaw10_DecimalOrder.f
  repeat' first
   | with_reducible first
    | exact ih0 _ _ _ _ _ _ _ _
    | exact ih1 _ _ _ _ _ _ _
    | exact ih2 _ _ _ _ _ _ _ _
    | exact decimal_Down.mono _ _ _ _ _
    | exact decimal_Near.mono _ _ _ _ _
    | exact decimal_Up.mono _ _ _ _ _
    | exact rat_Cmp.mono _ _ _ _ _ _ _
    | exact steelyardlaw10_below.mono _ _ _ _
    | exact steelyardlaw10_wakes.mono _
    | exact steelyardref07_Good.mono _ _ _ _
    | exact LeO.refl _
    | exact LeO.none _
    | refine LeO.ite ?_ ?_
    | refine LeO.bind ?_ (fun _ => ?_)
   | exact LeO.none _ | refine LeO.ite ?_ ?_ | refine LeO.bind ?_ (fun _ => ?_)
end Go.Proofs.YtjgmmaeafodpmaaGreatDoor.P
