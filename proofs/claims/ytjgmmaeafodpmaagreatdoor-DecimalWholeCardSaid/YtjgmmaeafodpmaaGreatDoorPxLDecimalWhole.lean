/- Plain functions: what the Go functions of a package come to. -/
import Derived.Test.YtjgmmaeafodpmaaGreatDoorYWords
import Derived.Test.YtjgmmaeafodpmaaGreatDoorMx
set_option linter.unusedVariables false
set_option linter.unusedSimpArgs false
namespace Go.Proofs.YtjgmmaeafodpmaaGreatDoor.P
open Go.RowKit Go.Proofs.YtjgmmaeafodpmaaGreatDoorW.PrintWords Go.Proofs.YtjgmmaeafodpmaaGreatDoorW.PrintLast Go.Proofs.YtjgmmaeafodpmaaGreatDoorW.PrintMore
mutual
def steelyardlaw10_DecimalWhole.j0 : Nat → Int → Int → Bool → Bool → List Int → List Int → Option (Bool)
  | 0, _, _, _, _, _, _ => none
  | k + 1, x0, x2, x34, x2041000, x2041001, x2041002 => if x34 = true then ((steelyardlaw10_wakes.f k).bind fun t2042 => (some t2042)) else (steelyardlaw10_DecimalWhole.l0 k x0 (Int.tmod (wrap64 (x2)) 20) (⟨#[]⟩ : ByteArray) 0 x2041000 x2041001 x2041002)
def steelyardlaw10_DecimalWhole.l0 : Nat → Int → Int → ByteArray → Int → Bool → List Int → List Int → Option (Bool)
  | 0, _, _, _, _, _, _, _ => none
  | k + 1, x0, x7, x8, x9, x2041000, x2041001, x2041002 => if x9 < x7 then (if x8.size + 1 ≤ 9223372036854775807 then (steelyardlaw10_DecimalWhole.l0 k x0 x7 (x8 ++ (⟨#[48]⟩ : ByteArray)) (wrap64 (x9 + 1)) x2041000 x2041001 x2041002) else (none)) else ((whole_Of.f k (wrap64 (x0))).bind fun bt2043 => ((whole_Text.f k bt2043.1 bt2043.2).bind fun t2047 => (if x7 > 0 then (if 1 + x8.size ≤ 9223372036854775807 then (if t2047.size + ((⟨#[46]⟩ : ByteArray) ++ x8).size ≤ 9223372036854775807 then (steelyardlaw10_DecimalWhole.j2 k x0 x7 (t2047 ++ ((⟨#[46]⟩ : ByteArray) ++ x8)) x2041000 x2041001 x2041002) else (none)) else (none)) else (steelyardlaw10_DecimalWhole.j2 k x0 x7 t2047 x2041000 x2041001 x2041002))))
def steelyardlaw10_DecimalWhole.j2 : Nat → Int → Int → ByteArray → Bool → List Int → List Int → Option (Bool)
  | 0, _, _, _, _, _, _ => none
  | k + 1, x0, x7, x10, x2041000, x2041001, x2041002 => (rat_Whole.f k (wrap64 (x0))).bind fun bt2048 => ((decimal_Down.f k bt2048.1 bt2048.2.1 bt2048.2.2 x7).bind fun bt2055 => ((rat_Whole.f k (wrap64 (x0))).bind fun bt2057 => ((decimal_Up.f k bt2057.1 bt2057.2.1 bt2057.2.2 x7).bind fun bt2064 => (if bt2055.2 = 0 then (if bt2064.2 = 0 then (if bt2055.1.toList = x10.toList then (steelyardlaw10_DecimalWhole.j3 k x7 (bt2064.1.toList != x10.toList) x2041000 x2041001 x2041002) else (steelyardlaw10_DecimalWhole.j3 k x7 true x2041000 x2041001 x2041002)) else (steelyardlaw10_DecimalWhole.j3 k x7 true x2041000 x2041001 x2041002)) else (steelyardlaw10_DecimalWhole.j3 k x7 true x2041000 x2041001 x2041002)))))
def steelyardlaw10_DecimalWhole.j3 : Nat → Int → Bool → Bool → List Int → List Int → Option (Bool)
  | 0, _, _, _, _, _ => none
  | k + 1, x7, x87, x2041000, x2041001, x2041002 => if x87 = true then (none) else ((rat_Sign.f k x2041000 x2041001 x2041002).bind fun t2066 => (if t2066 < 0 then (steelyardlaw10_DecimalWhole.j4 k x7 true x2041000 x2041001 x2041002) else (steelyardlaw10_DecimalWhole.j4 k x7 (x7 == 0) x2041000 x2041001 x2041002)))
def steelyardlaw10_DecimalWhole.j4 : Nat → Int → Bool → Bool → List Int → List Int → Option (Bool)
  | 0, _, _, _, _, _ => none
  | k + 1, x7, x94, x2041000, x2041001, x2041002 => if x94 = true then ((steelyardlaw10_wakes.f k).bind fun t2067 => (some t2067)) else ((decimal_Down.f k x2041000 x2041001 x2041002 x7).bind fun bt2068 => ((decimal_Down.f k x2041000 x2041001 x2041002 (wrap64 (x7 + 1))).bind fun bt2070 => (if bt2068.2 = 0 then (if bt2070.2 = 0 then (if (bt2070.1.size : Int) = (wrap64 ((bt2068.1.size : Int) + 1)) then (if 0 ≤ (bt2068.1.size : Int) then (if (bt2068.1.size : Int) ≤ (bt2070.1.size : Int) then (if (bt2070.1.extract 0 ((bt2068.1.size : Int) : Int).toNat).toList = bt2068.1.toList then ((steelyardlaw10_wakes.f k).bind fun t2072 => (some t2072)) else (none)) else (none)) else (none)) else (none)) else (none)) else (none))))
end
def steelyardlaw10_DecimalWhole.f (k : Nat) (a0 : Int) (a1_0 : Bool) (l1_1 : List Int) (l1_2 : List Int) (a2 : Int) : Option (Bool) := (steelyardref07_Good.f k a1_0 l1_1 l1_2).bind fun t2041 => (if t2041 = true then (if (l1_1.length : Int) > 20 then (steelyardlaw10_DecimalWhole.j0 k a0 a2 true a1_0 l1_1 l1_2) else (steelyardlaw10_DecimalWhole.j0 k a0 a2 (decide ((l1_2.length : Int) > 20)) a1_0 l1_1 l1_2)) else (steelyardlaw10_DecimalWhole.j0 k a0 a2 true a1_0 l1_1 l1_2))
theorem steelyardlaw10_DecimalWhole.mono_l : ∀ k, (∀ y0 y1 y2 y3 y4 y5, LeO (steelyardlaw10_DecimalWhole.j0 k y0 y1 y2 y3 y4 y5) (steelyardlaw10_DecimalWhole.j0 (k + 1) y0 y1 y2 y3 y4 y5)) ∧ (∀ y0 y1 y2 y3 y4 y5 y6, LeO (steelyardlaw10_DecimalWhole.l0 k y0 y1 y2 y3 y4 y5 y6) (steelyardlaw10_DecimalWhole.l0 (k + 1) y0 y1 y2 y3 y4 y5 y6)) ∧ (∀ y0 y1 y2 y3 y4 y5, LeO (steelyardlaw10_DecimalWhole.j2 k y0 y1 y2 y3 y4 y5) (steelyardlaw10_DecimalWhole.j2 (k + 1) y0 y1 y2 y3 y4 y5)) ∧ (∀ y0 y1 y2 y3 y4, LeO (steelyardlaw10_DecimalWhole.j3 k y0 y1 y2 y3 y4) (steelyardlaw10_DecimalWhole.j3 (k + 1) y0 y1 y2 y3 y4)) ∧ (∀ y0 y1 y2 y3 y4, LeO (steelyardlaw10_DecimalWhole.j4 k y0 y1 y2 y3 y4) (steelyardlaw10_DecimalWhole.j4 (k + 1) y0 y1 y2 y3 y4))
  | 0 => ⟨fun _ _ _ _ _ _ r h => by simp [steelyardlaw10_DecimalWhole.j0] at h, fun _ _ _ _ _ _ _ r h => by simp [steelyardlaw10_DecimalWhole.l0] at h, fun _ _ _ _ _ _ r h => by simp [steelyardlaw10_DecimalWhole.j2] at h, fun _ _ _ _ _ r h => by simp [steelyardlaw10_DecimalWhole.j3] at h, fun _ _ _ _ _ r h => by simp [steelyardlaw10_DecimalWhole.j4] at h⟩
  | k + 1 => by
    obtain ⟨ih0, ih1, ih2, ih3, ih4⟩ := steelyardlaw10_DecimalWhole.mono_l k
    refine ⟨?_, ?_, ?_, ?_, ?_⟩
    · intro y0 y1 y2 y3 y4 y5
      unfold steelyardlaw10_DecimalWhole.j0
      repeat' first
       | with_reducible first
        | exact ih0 _ _ _ _ _ _
        | exact ih1 _ _ _ _ _ _ _
        | exact ih2 _ _ _ _ _ _
        | exact ih3 _ _ _ _ _
        | exact ih4 _ _ _ _ _
        | exact decimal_Down.mono _ _ _ _ _
        | exact decimal_Up.mono _ _ _ _ _
        | exact rat_Sign.mono _ _ _ _
        | exact rat_Whole.mono _ _
        | exact steelyardlaw10_wakes.mono _
        | exact steelyardref07_Good.mono _ _ _ _
        | exact whole_Of.mono _ _
        | exact whole_Text.mono _ _ _
        | exact LeO.refl _
        | exact LeO.none _
        | refine LeO.ite ?_ ?_
        | refine LeO.bind ?_ (fun _ => ?_)
       | exact LeO.none _ | refine LeO.ite ?_ ?_ | refine LeO.bind ?_ (fun _ => ?_)
    · intro y0 y1 y2 y3 y4 y5 y6
      unfold steelyardlaw10_DecimalWhole.l0
      repeat' first
       | with_reducible first
        | exact ih0 _ _ _ _ _ _
        | exact ih1 _ _ _ _ _ _ _
        | exact ih2 _ _ _ _ _ _
        | exact ih3 _ _ _ _ _
        | exact ih4 _ _ _ _ _
        | exact decimal_Down.mono _ _ _ _ _
        | exact decimal_Up.mono _ _ _ _ _
        | exact rat_Sign.mono _ _ _ _
        | exact rat_Whole.mono _ _
        | exact steelyardlaw10_wakes.mono _
        | exact steelyardref07_Good.mono _ _ _ _
        | exact whole_Of.mono _ _
        | exact whole_Text.mono _ _ _
        | exact LeO.refl _
        | exact LeO.none _
        | refine LeO.ite ?_ ?_
        | refine LeO.bind ?_ (fun _ => ?_)
       | exact LeO.none _ | refine LeO.ite ?_ ?_ | refine LeO.bind ?_ (fun _ => ?_)
    · intro y0 y1 y2 y3 y4 y5
      unfold steelyardlaw10_DecimalWhole.j2
      repeat' first
       | with_reducible first
        | exact ih0 _ _ _ _ _ _
        | exact ih1 _ _ _ _ _ _ _
        | exact ih2 _ _ _ _ _ _
        | exact ih3 _ _ _ _ _
        | exact ih4 _ _ _ _ _
        | exact decimal_Down.mono _ _ _ _ _
        | exact decimal_Up.mono _ _ _ _ _
        | exact rat_Sign.mono _ _ _ _
        | exact rat_Whole.mono _ _
        | exact steelyardlaw10_wakes.mono _
        | exact steelyardref07_Good.mono _ _ _ _
        | exact whole_Of.mono _ _
        | exact whole_Text.mono _ _ _
        | exact LeO.refl _
        | exact LeO.none _
        | refine LeO.ite ?_ ?_
        | refine LeO.bind ?_ (fun _ => ?_)
       | exact LeO.none _ | refine LeO.ite ?_ ?_ | refine LeO.bind ?_ (fun _ => ?_)
    · intro y0 y1 y2 y3 y4
      unfold steelyardlaw10_DecimalWhole.j3
      repeat' first
       | with_reducible first
        | exact ih0 _ _ _ _ _ _
        | exact ih1 _ _ _ _ _ _ _
        | exact ih2 _ _ _ _ _ _
        | exact ih3 _ _ _ _ _
        | exact ih4 _ _ _ _ _
        | exact decimal_Down.mono _ _ _ _ _
        | exact decimal_Up.mono _ _ _ _ _
        | exact rat_Sign.mono _ _ _ _
        | exact rat_Whole.mono _ _
        | exact steelyardlaw10_wakes.mono _
        | exact steelyardref07_Good.mono _ _ _ _
        | exact whole_Of.mono _ _
        | exact whole_Text.mono _ _ _
        | exact LeO.refl _
        | exact LeO.none _
        | refine LeO.ite ?_ ?_
        | refine LeO.bind ?_ (fun _ => ?_)
       | exact LeO.none _ | refine LeO.ite ?_ ?_ | refine LeO.bind ?_ (fun _ => ?_)
    · intro y0 y1 y2 y3 y4
      unfold steelyardlaw10_DecimalWhole.j4
      repeat' first
       | with_reducible first
        | exact ih0 _ _ _ _ _ _
        | exact ih1 _ _ _ _ _ _ _
        | exact ih2 _ _ _ _ _ _
        | exact ih3 _ _ _ _ _
        | exact ih4 _ _ _ _ _
        | exact decimal_Down.mono _ _ _ _ _
        | exact decimal_Up.mono _ _ _ _ _
        | exact rat_Sign.mono _ _ _ _
        | exact rat_Whole.mono _ _
        | exact steelyardlaw10_wakes.mono _
        | exact steelyardref07_Good.mono _ _ _ _
        | exact whole_Of.mono _ _
        | exact whole_Text.mono _ _ _
        | exact LeO.refl _
        | exact LeO.none _
        | refine LeO.ite ?_ ?_
        | refine LeO.bind ?_ (fun _ => ?_)
       | exact LeO.none _ | refine LeO.ite ?_ ?_ | refine LeO.bind ?_ (fun _ => ?_)
theorem steelyardlaw10_DecimalWhole.mono : ∀ a0 a1 a2 a3 a4 k, LeO (steelyardlaw10_DecimalWhole.f k a0 a1 a2 a3 a4) (steelyardlaw10_DecimalWhole.f (k + 1) a0 a1 a2 a3 a4) := by
  intro a0 a1 a2 a3 a4 k
  obtain ⟨ih0, ih1, ih2, ih3, ih4⟩ := steelyardlaw10_DecimalWhole.mono_l k
  unfold steelyardlaw10_DecimalWhole.f
  repeat' first
   | with_reducible first
    | exact ih0 _ _ _ _ _ _
    | exact ih1 _ _ _ _ _ _ _
    | exact ih2 _ _ _ _ _ _
    | exact ih3 _ _ _ _ _
    | exact ih4 _ _ _ _ _
    | exact decimal_Down.mono _ _ _ _ _
    | exact decimal_Up.mono _ _ _ _ _
    | exact rat_Sign.mono _ _ _ _
    | exact rat_Whole.mono _ _
    | exact steelyardlaw10_wakes.mono _
    | exact steelyardref07_Good.mono _ _ _ _
    | exact whole_Of.mono _ _
    | exact whole_Text.mono _ _ _
    | exact LeO.refl _
    | exact LeO.none _
    | refine LeO.ite ?_ ?_
    | refine LeO.bind ?_ (fun _ => ?_)
   | exact LeO.none _ | refine LeO.ite ?_ ?_ | refine LeO.bind ?_ (fun _ => ?_)
end Go.Proofs.YtjgmmaeafodpmaaGreatDoor.P
