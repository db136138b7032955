/- Plain functions: what the Go functions of a package come to. -/
import Derived.Test.YtjgmmaeafodpmaaGreatDoorYWords
import Derived.Test.YtjgmmaeafodpmaaGreatDoorMx
set_option linter.unusedVariables false
set_option linter.unusedSimpArgs false
namespace Go.Proofs.YtjgmmaeafodpmaaGreatDoor.P
open Go.RowKit Go.Proofs.YtjgmmaeafodpmaaGreatDoorW.PrintWords Go.Proofs.YtjgmmaeafodpmaaGreatDoorW.PrintLast Go.Proofs.YtjgmmaeafodpmaaGreatDoorW.PrintMore
mutual
def steelyardlaw25_EncloseTells.j0 : Nat → Int → Bool → Bool → List Int → List Int → Option (Bool)
  | 0, _, _, _, _, _ => none
  | k + 1, x1, x25, x1301000, x1301001, x1301002 => if x25 = true then ((steelyardlaw25_wakes.f k).bind fun t1301 => (some t1301)) else ((steelyardkeep_OwnRat.f x1301000 x1301001 x1301002).bind fun bt1302 => ((enclose_Root.f k bt1302.1 bt1302.2.1 bt1302.2.2 x1).bind fun bt1310 => ((enclose_Text.f k bt1302.1 bt1302.2.1 bt1302.2.2 x1).bind fun bt1327 => ((steelyardref25_Root.f k x1301000 x1301001 x1301002 x1).bind fun bt1330 => (if bt1330.2.2.2.2.2.2 = 0 then ((steelyardref10_Down.f k bt1330.1 bt1330.2.1 bt1330.2.2.1 x1).bind fun t1346 => ((steelyardref10_Down.f k bt1330.2.2.2.1 bt1330.2.2.2.2.1 bt1330.2.2.2.2.2.1 x1).bind fun t1347 => (steelyardlaw25_EncloseTells.j1 k bt1310.2.2.2.2.2.2 bt1327.1 bt1327.2.1 bt1327.2.2 t1346 t1347 x1301000 x1301001 x1301002 bt1302.1 bt1302.2.1 bt1302.2.2 bt1310.1 bt1310.2.1 bt1310.2.2.1 bt1310.2.2.2.1 bt1310.2.2.2.2.1 bt1310.2.2.2.2.2.1 bt1330.1 bt1330.2.1 bt1330.2.2.1 bt1330.2.2.2.1 bt1330.2.2.2.2.1 bt1330.2.2.2.2.2.1 bt1330.2.2.2.2.2.2))) else (steelyardlaw25_EncloseTells.j1 k bt1310.2.2.2.2.2.2 bt1327.1 bt1327.2.1 bt1327.2.2 (⟨#[]⟩ : ByteArray) (⟨#[]⟩ : ByteArray) x1301000 x1301001 x1301002 bt1302.1 bt1302.2.1 bt1302.2.2 bt1310.1 bt1310.2.1 bt1310.2.2.1 bt1310.2.2.2.1 bt1310.2.2.2.2.1 bt1310.2.2.2.2.2.1 bt1330.1 bt1330.2.1 bt1330.2.2.1 bt1330.2.2.2.1 bt1330.2.2.2.2.1 bt1330.2.2.2.2.2.1 bt1330.2.2.2.2.2.2))))))
def steelyardlaw25_EncloseTells.j1 : Nat → Int → ByteArray → ByteArray → Int → ByteArray → ByteArray → Bool → List Int → List Int → Bool → List Int → List Int → Bool → List Int → List Int → Bool → List Int → List Int → Bool → List Int → List Int → Bool → List Int → List Int → Int → Option (Bool)
  | 0, _, _, _, _, _, _, _, _, _, _, _, _, _, _, _, _, _, _, _, _, _, _, _, _, _ => none
  | k + 1, x8, x9, x10, x11, x13, x14, x1301000, x1301001, x1301002, x1310000, x1310001, x1310002, x1326000, x1326001, x1326002, x1327000, x1327001, x1327002, x1346000, x1346001, x1346002, x1346003, x1346004, x1346005, x1346006 => (steelyardkeep_Rat.f k x1326000 x1326001 x1326002 x1346000 x1346001 x1346002).bind fun t1348 => (if t1348 = true then ((steelyardkeep_Rat.f k x1327000 x1327001 x1327002 x1346003 x1346004 x1346005).bind fun t1349 => (if t1349 = true then (if x8 = x1346006 then (if x11 = x8 then (if x9.toList = x13.toList then (if x10.toList = x14.toList then ((steelyardkeep_Rat.f k x1310000 x1310001 x1310002 x1301000 x1301001 x1301002).bind fun t1350 => (if t1350 = true then ((steelyardlaw25_wakes.f k).bind fun t1351 => (some t1351)) else (none))) else (none)) else (none)) else (none)) else (none)) else (none))) else (none))
end
def steelyardlaw25_EncloseTells.f (k : Nat) (a0_0 : Bool) (l0_1 : List Int) (l0_2 : List Int) (a1 : Int) : Option (Bool) := if (l0_1.length : Int) > 30 then (steelyardlaw25_EncloseTells.j0 k a1 true a0_0 l0_1 l0_2) else (steelyardlaw25_EncloseTells.j0 k a1 (decide ((l0_2.length : Int) > 30)) a0_0 l0_1 l0_2)
theorem steelyardlaw25_EncloseTells.mono_l : ∀ k, (∀ y0 y1 y2 y3 y4, LeO (steelyardlaw25_EncloseTells.j0 k y0 y1 y2 y3 y4) (steelyardlaw25_EncloseTells.j0 (k + 1) y0 y1 y2 y3 y4)) ∧ (∀ y0 y1 y2 y3 y4 y5 y6 y7 y8 y9 y10 y11 y12 y13 y14 y15 y16 y17 y18 y19 y20 y21 y22 y23 y24, LeO (steelyardlaw25_EncloseTells.j1 k y0 y1 y2 y3 y4 y5 y6 y7 y8 y9 y10 y11 y12 y13 y14 y15 y16 y17 y18 y19 y20 y21 y22 y23 y24) (steelyardlaw25_EncloseTells.j1 (k + 1) y0 y1 y2 y3 y4 y5 y6 y7 y8 y9 y10 y11 y12 y13 y14 y15 y16 y17 y18 y19 y20 y21 y22 y23 y24))
  | 0 => ⟨fun _ _ _ _ _ r h => by simp [steelyardlaw25_EncloseTells.j0] at h, fun _ _ _ _ _ _ _ _ _ _ _ _ _ _ _ _ _ _ _ _ _ _ _ _ _ r h => by simp [steelyardlaw25_EncloseTells.j1] at h⟩
  | k + 1 => by
    obtain ⟨ih0, ih1⟩ := steelyardlaw25_EncloseTells.mono_l k
    refine ⟨?_, ?_⟩
    · intro y0 y1 y2 y3 y4
      unfold steelyardlaw25_EncloseTells.j0
      repeat' first
       | with_reducible first
        | exact ih0 _ _ _ _ _
        | exact ih1 _ _ _ _ _ _ _ _ _ _ _ _ _ _ _ _ _ _ _ _ _ _ _ _ _
        | exact enclose_Root.mono _ _ _ _ _
        | exact enclose_Text.mono _ _ _ _ _
        | exact steelyardkeep_Rat.mono _ _ _ _ _ _ _
        | exact steelyardlaw25_wakes.mono _
        | exact steelyardref10_Down.mono _ _ _ _ _
        | exact steelyardref25_Root.mono _ _ _ _ _
        | exact LeO.refl _
        | exact LeO.none _
        | refine LeO.ite ?_ ?_
        | refine LeO.bind ?_ (fun _ => ?_)
       | exact LeO.none _ | refine LeO.ite ?_ ?_ | refine LeO.bind ?_ (fun _ => ?_)
    · intro y0 y1 y2 y3 y4 y5 y6 y7 y8 y9 y10 y11 y12 y13 y14 y15 y16 y17 y18 y19 y20 y21 y22 y23 y24
      unfold steelyardlaw25_EncloseTells.j1
      repeat' first
       | with_reducible first
        | exact ih0 _ _ _ _ _
        | exact ih1 _ _ _ _ _ _ _ _ _ _ _ _ _ _ _ _ _ _ _ _ _ _ _ _ _
        | exact enclose_Root.mono _ _ _ _ _
        | exact enclose_Text.mono _ _ _ _ _
        | exact steelyardkeep_Rat.mono _ _ _ _ _ _ _
        | exact steelyardlaw25_wakes.mono _
        | exact steelyardref10_Down.mono _ _ _ _ _
        | exact steelyardref25_Root.mono _ _ _ _ _
        | exact LeO.refl _
        | exact LeO.none _
        | refine LeO.ite ?_ ?_
        | refine LeO.bind ?_ (fun _ => ?_)
       | exact LeO.none _ | refine LeO.ite ?_ ?_ | refine LeO.bind ?_ (fun _ => ?_)
theorem steelyardlaw25_EncloseTells.mono : ∀ a0 a1 a2 a3 k, LeO (steelyardlaw25_EncloseTells.f k a0 a1 a2 a3) (steelyardlaw25_EncloseTells.f (k + 1) a0 a1 a2 a3) := by
  intro a0 a1 a2 a3 k
  obtain ⟨ih0, ih1⟩ := steelyardlaw25_EncloseTells.mono_l k
  unfold steelyardlaw25_EncloseTells.f
  repeat' first
   | with_reducible first
    | exact ih0 _ _ _ _ _
    | exact ih1 _ _ _ _ _ _ _ _ _ _ _ _ _ _ _ _ _ _ _ _ _ _ _ _ _
    | exact enclose_Root.mono _ _ _ _ _
    | exact enclose_Text.mono _ _ _ _ _
    | exact steelyardkeep_Rat.mono _ _ _ _ _ _ _
    | exact steelyardlaw25_wakes.mono _
    | exact steelyardref10_Down.mono _ _ _ _ _
    | exact steelyardref25_Root.mono _ _ _ _ _
    | exact LeO.refl _
    | exact LeO.none _
    | refine LeO.ite ?_ ?_
    | refine LeO.bind ?_ (fun _ => ?_)
   | exact LeO.none _ | refine LeO.ite ?_ ?_ | refine LeO.bind ?_ (fun _ => ?_)
end Go.Proofs.YtjgmmaeafodpmaaGreatDoor.P
