/- Plain functions: what the Go functions of a package come to. -/
import Derived.Test.YtjgmmaeafodpmaaDoorYWords
import Derived.Test.YtjgmmaeafodpmaaDoorMx
set_option linter.unusedVariables false
set_option linter.unusedSimpArgs false
namespace Go.Proofs.YtjgmmaeafodpmaaDoor.P
open Go.RowKit Go.Proofs.YtjgmmaeafodpmaaDoorW.PrintWords Go.Proofs.YtjgmmaeafodpmaaDoorW.PrintLast Go.Proofs.YtjgmmaeafodpmaaDoorW.PrintMore
def steelyardlaw25_EncloseTens.j0 : Nat → Int → Bool → Bool → List Int → List Int → Option (Bool)
  | 0, _, _, _, _, _ => none
  | k + 1, x1, x33, x1258000, x1258001, x1258002 => if x33 = true then ((steelyardlaw25_wakes.f k).bind fun t1260 => (some t1260)) else ((enclose_Root.f k x1258000 x1258001 x1258002 (wrap64 (1 + (Int.tmod (wrap64 (x1)) 20)))).bind fun bt1261 => ((steelyardlaw07_By.f k 100 1).bind fun bt1278 => ((steelyardref07_Times.f k x1258000 x1258001 x1258002 bt1278.1 bt1278.2.1 bt1278.2.2).bind fun bt1285 => ((enclose_Root.f k bt1285.1 bt1285.2.1 bt1285.2.2 (wrap64 ((wrap64 (1 + (Int.tmod (wrap64 (x1)) 20))) - 1))).bind fun bt1292 => ((steelyardlaw07_By.f k 10 1).bind fun bt1309 => (if bt1261.2.2.2.2.2.2 = 0 then (if bt1292.2.2.2.2.2.2 = 0 then ((steelyardref07_Times.f k bt1261.1 bt1261.2.1 bt1261.2.2.1 bt1309.1 bt1309.2.1 bt1309.2.2).bind fun bt1317 => ((steelyardkeep_Rat.f k bt1292.1 bt1292.2.1 bt1292.2.2.1 bt1317.1 bt1317.2.1 bt1317.2.2).bind fun t1324 => (if t1324 = true then ((steelyardref07_Times.f k bt1261.2.2.2.1 bt1261.2.2.2.2.1 bt1261.2.2.2.2.2.1 bt1309.1 bt1309.2.1 bt1309.2.2).bind fun bt1325 => ((steelyardkeep_Rat.f k bt1292.2.2.2.1 bt1292.2.2.2.2.1 bt1292.2.2.2.2.2.1 bt1325.1 bt1325.2.1 bt1325.2.2).bind fun t1332 => (if t1332 = true then ((steelyardlaw25_wakes.f k).bind fun t1333 => (some t1333)) else (none)))) else (none)))) else (none)) else (none)))))))
def steelyardlaw25_EncloseTens.f (k : Nat) (a0_0 : Bool) (l0_1 : List Int) (l0_2 : List Int) (a1 : Int) : Option (Bool) := (steelyardref07_Good.f k a0_0 l0_1 l0_2).bind fun t1258 => (if t1258 = true then (if (l0_1.length : Int) > 8 then (steelyardlaw25_EncloseTens.j0 k a1 true a0_0 l0_1 l0_2) else (if (l0_2.length : Int) > 8 then (steelyardlaw25_EncloseTens.j0 k a1 true a0_0 l0_1 l0_2) else ((steelyardref07_Sign.f k a0_0 l0_1 l0_2).bind fun t1259 => (steelyardlaw25_EncloseTens.j0 k a1 (decide (t1259 < 0)) a0_0 l0_1 l0_2)))) else (steelyardlaw25_EncloseTens.j0 k a1 true a0_0 l0_1 l0_2))
theorem steelyardlaw25_EncloseTens.mono_l : ∀ k, (∀ y0 y1 y2 y3 y4, LeO (steelyardlaw25_EncloseTens.j0 k y0 y1 y2 y3 y4) (steelyardlaw25_EncloseTens.j0 (k + 1) y0 y1 y2 y3 y4))
  | 0 => fun _ _ _ _ _ r h => by simp [steelyardlaw25_EncloseTens.j0] at h
  | k + 1 => by
    have ih0 := steelyardlaw25_EncloseTens.mono_l k
    · intro y0 y1 y2 y3 y4
      unfold steelyardlaw25_EncloseTens.j0
      repeat' first
       | with_reducible first
        | exact ih0 _ _ _ _ _
        | exact enclose_Root.mono _ _ _ _ _
        | exact steelyardkeep_Rat.mono _ _ _ _ _ _ _
        | exact steelyardlaw07_By.mono _ _ _
        | exact steelyardlaw25_wakes.mono _
        | exact steelyardref07_Good.mono _ _ _ _
        | exact steelyardref07_Sign.mono _ _ _ _
        | exact steelyardref07_Times.mono _ _ _ _ _ _ _
        | exact LeO.refl _
        | exact LeO.none _
        | refine LeO.ite ?_ ?_
        | refine LeO.bind ?_ (fun _ => ?_)
       | exact LeO.none _ | refine LeO.ite ?_ ?_ | refine LeO.bind ?_ (fun _ => ?_)
theorem steelyardlaw25_EncloseTens.mono : ∀ a0 a1 a2 a3 k, LeO (steelyardlaw25_EncloseTens.f k a0 a1 a2 a3) (steelyardlaw25_EncloseTens.f (k + 1) a0 a1 a2 a3) := by
  intro a0 a1 a2 a3 k
  have ih0 := steelyardlaw25_EncloseTens.mono_l k
  unfold steelyardlaw25_EncloseTens.f
  repeat' first
   | with_reducible first
    | exact ih0 _ _ _ _ _
    | exact enclose_Root.mono _ _ _ _ _
    | exact steelyardkeep_Rat.mono _ _ _ _ _ _ _
    | exact steelyardlaw07_By.mono _ _ _
    | exact steelyardlaw25_wakes.mono _
    | exact steelyardref07_Good.mono _ _ _ _
    | exact steelyardref07_Sign.mono _ _ _ _
    | exact steelyardref07_Times.mono _ _ _ _ _ _ _
    | exact LeO.refl _
    | exact LeO.none _
    | refine LeO.ite ?_ ?_
    | refine LeO.bind ?_ (fun _ => ?_)
   | exact LeO.none _ | refine LeO.ite ?_ ?_ | refine LeO.bind ?_ (fun _ => ?_)
end Go.Proofs.YtjgmmaeafodpmaaDoor.P
