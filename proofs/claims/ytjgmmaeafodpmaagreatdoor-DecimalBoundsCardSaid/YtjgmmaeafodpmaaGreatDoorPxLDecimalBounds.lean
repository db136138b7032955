/- Plain functions: what the Go functions of a package come to. -/
import Derived.Test.YtjgmmaeafodpmaaGreatDoorYWords
import Derived.Test.YtjgmmaeafodpmaaGreatDoorMx
set_option linter.unusedVariables false
set_option linter.unusedSimpArgs false
namespace Go.Proofs.YtjgmmaeafodpmaaGreatDoor.P
open Go.RowKit Go.Proofs.YtjgmmaeafodpmaaGreatDoorW.PrintWords Go.Proofs.YtjgmmaeafodpmaaGreatDoorW.PrintLast Go.Proofs.YtjgmmaeafodpmaaGreatDoorW.PrintMore
mutual
def steelyardlaw10_DecimalBounds.j0 : Nat → Int → Bool → Bool → List Int → List Int → Option (Bool)
  | 0, _, _, _, _, _ => none
  | k + 1, x1, x43, x2161000, x2161001, x2161002 => if x43 = true then ((steelyardlaw10_wakes.f k).bind fun t2162 => (some t2162)) else ((decimal_Down.f k x2161000 x2161001 x2161002 (Int.tmod (wrap64 (x1)) 20)).bind fun bt2163 => ((decimal_Up.f k x2161000 x2161001 x2161002 (Int.tmod (wrap64 (x1)) 20)).bind fun bt2165 => ((decimal_Near.f k x2161000 x2161001 x2161002 (Int.tmod (wrap64 (x1)) 20)).bind fun bt2167 => (if bt2163.2 = 0 then (if bt2165.2 = 0 then (steelyardlaw10_DecimalBounds.j1 k (Int.tmod (wrap64 (x1)) 20) bt2163.1 bt2165.1 bt2167.1 (bt2167.2 != 0) x2161000 x2161001 x2161002) else (none)) else (none)))))
def steelyardlaw10_DecimalBounds.j1 : Nat → Int → ByteArray → ByteArray → ByteArray → Bool → Bool → List Int → List Int → Option (Bool)
  | 0, _, _, _, _, _, _, _, _ => none
  | k + 1, x5, x6, x8, x10, x75, x2161000, x2161001, x2161002 => if x75 = true then (none) else ((steelyardlaw10_number.f k x6 x5).bind fun bt2169 => ((steelyardlaw10_number.f k x8 x5).bind fun bt2178 => ((steelyardlaw10_number.f k x10 x5).bind fun bt2187 => (if bt2169.2.2.2 = true then (if bt2178.2.2.2 = true then (steelyardlaw10_DecimalBounds.j2 k x5 x6 x8 x10 (!bt2187.2.2.2) x2161000 x2161001 x2161002 bt2169.1 bt2169.2.1 bt2169.2.2.1 bt2178.1 bt2178.2.1 bt2178.2.2.1 bt2187.1 bt2187.2.1 bt2187.2.2.1) else (none)) else (none)))))
def steelyardlaw10_DecimalBounds.j2 : Nat → Int → ByteArray → ByteArray → ByteArray → Bool → Bool → List Int → List Int → Bool → List Int → List Int → Bool → List Int → List Int → Bool → List Int → List Int → Option (Bool)
  | 0, _, _, _, _, _, _, _, _, _, _, _, _, _, _, _, _, _ => none
  | k + 1, x5, x6, x8, x10, x103, x2161000, x2161001, x2161002, x2178000, x2178001, x2178002, x2187000, x2187001, x2187002, x2196000, x2196001, x2196002 => if x103 = true then (none) else ((rat_Sub.f k x2187000 x2187001 x2187002 x2178000 x2178001 x2178002).bind fun bt2196 => ((digits_Ten.f k x5).bind fun bt2205 => ((whole_Of.f k 1).bind fun bt2209 => ((rat_Of.f k bt2209.1 bt2209.2 bt2205.1).bind fun bt2213 => (if bt2196.2.2.2 = 0 then (if bt2205.2 = true then (if bt2213.2.2.2 = 0 then ((rat_Cmp.f k x2178000 x2178001 x2178002 x2161000 x2161001 x2161002).bind fun t2222 => (if t2222 > 0 then (none) else ((rat_Cmp.f k x2187000 x2187001 x2187002 x2161000 x2161001 x2161002).bind fun t2223 => (if t2223 < 0 then (none) else ((rat_Sign.f k bt2196.1 bt2196.2.1 bt2196.2.2.1).bind fun t2224 => (if t2224 = 0 then ((rat_Sign.f k bt2196.1 bt2196.2.1 bt2196.2.2.1).bind fun t2225 => ((rat_Cmp.f k x2178000 x2178001 x2178002 x2161000 x2161001 x2161002).bind fun t2226 => (if ((t2225 == 0) != (t2226 == 0)) = true then (none) else (if x10.toList = x6.toList then (steelyardlaw10_DecimalBounds.j3 k false x2161000 x2161001 x2161002 x2196000 x2196001 x2196002 bt2213.1 bt2213.2.1 bt2213.2.2.1) else (steelyardlaw10_DecimalBounds.j3 k (x10.toList != x8.toList) x2161000 x2161001 x2161002 x2196000 x2196001 x2196002 bt2213.1 bt2213.2.1 bt2213.2.2.1))))) else ((steelyardkeep_Rat.f k bt2196.1 bt2196.2.1 bt2196.2.2.1 bt2213.1 bt2213.2.1 bt2213.2.2.1).bind fun t2227 => (if t2227 = true then ((rat_Sign.f k bt2196.1 bt2196.2.1 bt2196.2.2.1).bind fun t2228 => ((rat_Cmp.f k x2178000 x2178001 x2178002 x2161000 x2161001 x2161002).bind fun t2229 => (if ((t2228 == 0) != (t2229 == 0)) = true then (none) else (if x10.toList = x6.toList then (steelyardlaw10_DecimalBounds.j3 k false x2161000 x2161001 x2161002 x2196000 x2196001 x2196002 bt2213.1 bt2213.2.1 bt2213.2.2.1) else (steelyardlaw10_DecimalBounds.j3 k (x10.toList != x8.toList) x2161000 x2161001 x2161002 x2196000 x2196001 x2196002 bt2213.1 bt2213.2.1 bt2213.2.2.1))))) else (none))))))))) else (none)) else (none)) else (none))))))
def steelyardlaw10_DecimalBounds.j3 : Nat → Bool → Bool → List Int → List Int → Bool → List Int → List Int → Bool → List Int → List Int → Option (Bool)
  | 0, _, _, _, _, _, _, _, _, _, _ => none
  | k + 1, x173, x2161000, x2161001, x2161002, x2196000, x2196001, x2196002, x2222000, x2222001, x2222002 => if x173 = true then (none) else ((rat_Sub.f k x2161000 x2161001 x2161002 x2196000 x2196001 x2196002).bind fun bt2230 => ((rat_Add.f k bt2230.1 bt2230.2.1 bt2230.2.2.1 bt2230.1 bt2230.2.1 bt2230.2.2.1).bind fun bt2239 => (if bt2230.2.2.2 = 0 then (if bt2239.2.2.2 = 0 then ((rat_Cmp.f k bt2239.1 bt2239.2.1 bt2239.2.2.1 x2222000 x2222001 x2222002).bind fun t2248 => (if t2248 ≤ 0 then ((rat_Neg.f k bt2239.1 bt2239.2.1 bt2239.2.2.1).bind fun bt2249 => ((rat_Cmp.f k bt2249.1 bt2249.2.1 bt2249.2.2 x2222000 x2222001 x2222002).bind fun t2256 => (if t2256 ≤ 0 then ((steelyardlaw10_wakes.f k).bind fun t2257 => (some t2257)) else (none)))) else (none))) else (none)) else (none))))
end
def steelyardlaw10_DecimalBounds.f (k : Nat) (a0_0 : Bool) (l0_1 : List Int) (l0_2 : List Int) (a1 : Int) : Option (Bool) := (steelyardref07_Good.f k a0_0 l0_1 l0_2).bind fun t2161 => (if t2161 = true then (if (l0_1.length : Int) > 20 then (steelyardlaw10_DecimalBounds.j0 k a1 true a0_0 l0_1 l0_2) else (steelyardlaw10_DecimalBounds.j0 k a1 (decide ((l0_2.length : Int) > 20)) a0_0 l0_1 l0_2)) else (steelyardlaw10_DecimalBounds.j0 k a1 true a0_0 l0_1 l0_2))
theorem steelyardlaw10_DecimalBounds.mono_l : ∀ k, (∀ y0 y1 y2 y3 y4, LeO (steelyardlaw10_DecimalBounds.j0 k y0 y1 y2 y3 y4) (steelyardlaw10_DecimalBounds.j0 (k + 1) y0 y1 y2 y3 y4)) ∧ (∀ y0 y1 y2 y3 y4 y5 y6 y7, LeO (steelyardlaw10_DecimalBounds.j1 k y0 y1 y2 y3 y4 y5 y6 y7) (steelyardlaw10_DecimalBounds.j1 (k + 1) y0 y1 y2 y3 y4 y5 y6 y7)) ∧ (∀ y0 y1 y2 y3 y4 y5 y6 y7 y8 y9 y10 y11 y12 y13 y14 y15 y16, LeO (steelyardlaw10_DecimalBounds.j2 k y0 y1 y2 y3 y4 y5 y6 y7 y8 y9 y10 y11 y12 y13 y14 y15 y16) (steelyardlaw10_DecimalBounds.j2 (k + 1) y0 y1 y2 y3 y4 y5 y6 y7 y8 y9 y10 y11 y12 y13 y14 y15 y16)) ∧ (∀ y0 y1 y2 y3 y4 y5 y6 y7 y8 y9, LeO (steelyardlaw10_DecimalBounds.j3 k y0 y1 y2 y3 y4 y5 y6 y7 y8 y9) (steelyardlaw10_DecimalBounds.j3 (k + 1) y0 y1 y2 y3 y4 y5 y6 y7 y8 y9))
  | 0 => ⟨fun _ _ _ _ _ r h => by simp [steelyardlaw10_DecimalBounds.j0] at h, fun _ _ _ _ _ _ _ _ r h => by simp [steelyardlaw10_DecimalBounds.j1] at h, fun _ _ _ _ _ _ _ _ _ _ _ _ _ _ _ _ _ r h => by simp [steelyardlaw10_DecimalBounds.j2] at h, fun _ _ _ _ _ _ _ _ _ _ r h => by simp [steelyardlaw10_DecimalBounds.j3] at h⟩
  | k + 1 => by
    obtain ⟨ih0, ih1, ih2, ih3⟩ := steelyardlaw10_DecimalBounds.mono_l k
    refine ⟨?_, ?_, ?_, ?_⟩
    · intro y0 y1 y2 y3 y4
      unfold steelyardlaw10_DecimalBounds.j0
      repeat' first
       | with_reducible first
        | exact ih0 _ _ _ _ _
        | exact ih1 _ _ _ _ _ _ _ _
        | exact ih2 _ _ _ _ _ _ _ _ _ _ _ _ _ _ _ _ _
        | exact ih3 _ _ _ _ _ _ _ _ _ _
        | exact decimal_Down.mono _ _ _ _ _
        | exact decimal_Near.mono _ _ _ _ _
        | exact decimal_Up.mono _ _ _ _ _
        | exact digits_Ten.mono _ _
        | exact rat_Add.mono _ _ _ _ _ _ _
        | exact rat_Cmp.mono _ _ _ _ _ _ _
        | exact rat_Neg.mono _ _ _ _
        | exact rat_Of.mono _ _ _ _
        | exact rat_Sign.mono _ _ _ _
        | exact rat_Sub.mono _ _ _ _ _ _ _
        | exact steelyardkeep_Rat.mono _ _ _ _ _ _ _
        | exact steelyardlaw10_number.mono _ _ _
        | exact steelyardlaw10_wakes.mono _
        | exact steelyardref07_Good.mono _ _ _ _
        | exact whole_Of.mono _ _
        | exact LeO.refl _
        | exact LeO.none _
        | refine LeO.ite ?_ ?_
        | refine LeO.bind ?_ (fun _ => ?_)
       | exact LeO.none _ | refine LeO.ite ?_ ?_ | refine LeO.bind ?_ (fun _ => ?_)
    · intro y0 y1 y2 y3 y4 y5 y6 y7
      unfold steelyardlaw10_DecimalBounds.j1
      repeat' first
       | with_reducible first
        | exact ih0 _ _ _ _ _
        | exact ih1 _ _ _ _ _ _ _ _
        | exact ih2 _ _ _ _ _ _ _ _ _ _ _ _ _ _ _ _ _
        | exact ih3 _ _ _ _ _ _ _ _ _ _
        | exact decimal_Down.mono _ _ _ _ _
        | exact decimal_Near.mono _ _ _ _ _
        | exact decimal_Up.mono _ _ _ _ _
        | exact digits_Ten.mono _ _
        | exact rat_Add.mono _ _ _ _ _ _ _
        | exact rat_Cmp.mono _ _ _ _ _ _ _
        | exact rat_Neg.mono _ _ _ _
        | exact rat_Of.mono _ _ _ _
        | exact rat_Sign.mono _ _ _ _
        | exact rat_Sub.mono _ _ _ _ _ _ _
        | exact steelyardkeep_Rat.mono _ _ _ _ _ _ _
        | exact steelyardlaw10_number.mono _ _ _
        | exact steelyardlaw10_wakes.mono _
        | exact steelyardref07_Good.mono _ _ _ _
        | exact whole_Of.mono _ _
        | exact LeO.refl _
        | exact LeO.none _
        | refine LeO.ite ?_ ?_
        | refine LeO.bind ?_ (fun _ => ?_)
       | exact LeO.none _ | refine LeO.ite ?_ ?_ | refine LeO.bind ?_ (fun _ => ?_)
    · intro y0 y1 y2 y3 y4 y5 y6 y7 y8 y9 y10 y11 y12 y13 y14 y15 y16
      unfold steelyardlaw10_DecimalBounds.j2
      repeat' first
       | with_reducible first
        | exact ih0 _ _ _ _ _
        | exact ih1 _ _ _ _ _ _ _ _
        | exact ih2 _ _ _ _ _ _ _ _ _ _ _ _ _ _ _ _ _
        | exact ih3 _ _ _ _ _ _ _ _ _ _
        | exact decimal_Down.mono _ _ _ _ _
        | exact decimal_Near.mono _ _ _ _ _
        | exact decimal_Up.mono _ _ _ _ _
        | exact digits_Ten.mono _ _
        | exact rat_Add.mono _ _ _ _ _ _ _
        | exact rat_Cmp.mono _ _ _ _ _ _ _
        | exact rat_Neg.mono _ _ _ _
        | exact rat_Of.mono _ _ _ _
        | exact rat_Sign.mono _ _ _ _
        | exact rat_Sub.mono _ _ _ _ _ _ _
        | exact steelyardkeep_Rat.mono _ _ _ _ _ _ _
        | exact steelyardlaw10_number.mono _ _ _
        | exact steelyardlaw10_wakes.mono _
        | exact steelyardref07_Good.mono _ _ _ _
        | exact whole_Of.mono _ _
        | exact LeO.refl _
        | exact LeO.none _
        | refine LeO.ite ?_ ?_
        | refine LeO.bind ?_ (fun _ => ?_)
       | exact LeO.none _ | refine LeO.ite ?_ ?_ | refine LeO.bind ?_ (fun _ => ?_)
    · intro y0 y1 y2 y3 y4 y5 y6 y7 y8 y9
      unfold steelyardlaw10_DecimalBounds.j3
      repeat' first
       | with_reducible first
        | exact ih0 _ _ _ _ _
        | exact ih1 _ _ _ _ _ _ _ _
        | exact ih2 _ _ _ _ _ _ _ _ _ _ _ _ _ _ _ _ _
        | exact ih3 _ _ _ _ _ _ _ _ _ _
        | exact decimal_Down.mono _ _ _ _ _
        | exact decimal_Near.mono _ _ _ _ _
        | exact decimal_Up.mono _ _ _ _ _
        | exact digits_Ten.mono _ _
        | exact rat_Add.mono _ _ _ _ _ _ _
        | exact rat_Cmp.mono _ _ _ _ _ _ _
        | exact rat_Neg.mono _ _ _ _
        | exact rat_Of.mono _ _ _ _
        | exact rat_Sign.mono _ _ _ _
        | exact rat_Sub.mono _ _ _ _ _ _ _
        | exact steelyardkeep_Rat.mono _ _ _ _ _ _ _
        | exact steelyardlaw10_number.mono _ _ _
        | exact steelyardlaw10_wakes.mono _
        | exact steelyardref07_Good.mono _ _ _ _
        | exact whole_Of.mono _ _
        | exact LeO.refl _
        | exact LeO.none _
        | refine LeO.ite ?_ ?_
        | refine LeO.bind ?_ (fun _ => ?_)
       | exact LeO.none _ | refine LeO.ite ?_ ?_ | refine LeO.bind ?_ (fun _ => ?_)
theorem steelyardlaw10_DecimalBounds.mono : ∀ a0 a1 a2 a3 k, LeO (steelyardlaw10_DecimalBounds.f k a0 a1 a2 a3) (steelyardlaw10_DecimalBounds.f (k + 1) a0 a1 a2 a3) := by
  intro a0 a1 a2 a3 k
  obtain ⟨ih0, ih1, ih2, ih3⟩ := steelyardlaw10_DecimalBounds.mono_l k
  unfold steelyardlaw10_DecimalBounds.f
  repeat' first
   | with_reducible first
    | exact ih0 _ _ _ _ _
    | exact ih1 _ _ _ _ _ _ _ _
    | exact ih2 _ _ _ _ _ _ _ _ _ _ _ _ _ _ _ _ _
    | exact ih3 _ _ _ _ _ _ _ _ _ _
    | exact decimal_Down.mono _ _ _ _ _
    | exact decimal_Near.mono _ _ _ _ _
    | exact decimal_Up.mono _ _ _ _ _
    | exact digits_Ten.mono _ _
    | exact rat_Add.mono _ _ _ _ _ _ _
    | exact rat_Cmp.mono _ _ _ _ _ _ _
    | exact rat_Neg.mono _ _ _ _
    | exact rat_Of.mono _ _ _ _
    | exact rat_Sign.mono _ _ _ _
    | exact rat_Sub.mono _ _ _ _ _ _ _
    | exact steelyardkeep_Rat.mono _ _ _ _ _ _ _
    | exact steelyardlaw10_number.mono _ _ _
    | exact steelyardlaw10_wakes.mono _
    | exact steelyardref07_Good.mono _ _ _ _
    | exact whole_Of.mono _ _
    | exact LeO.refl _
    | exact LeO.none _
    | refine LeO.ite ?_ ?_
    | refine LeO.bind ?_ (fun _ => ?_)
   | exact LeO.none _ | refine LeO.ite ?_ ?_ | refine LeO.bind ?_ (fun _ => ?_)
end Go.Proofs.YtjgmmaeafodpmaaGreatDoor.P
