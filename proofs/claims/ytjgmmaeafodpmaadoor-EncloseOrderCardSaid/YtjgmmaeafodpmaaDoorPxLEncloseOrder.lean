/- Plain functions: what the Go functions of a package come to. -/
import Derived.Test.YtjgmmaeafodpmaaDoorYWords
import Derived.Test.YtjgmmaeafodpmaaDoorMx
set_option linter.unusedVariables false
set_option linter.unusedSimpArgs false
namespace Go.Proofs.YtjgmmaeafodpmaaDoor.P
open Go.RowKit Go.Proofs.YtjgmmaeafodpmaaDoorW.PrintWords Go.Proofs.YtjgmmaeafodpmaaDoorW.PrintLast Go.Proofs.YtjgmmaeafodpmaaDoorW.PrintMore
mutual
def steelyardlaw25_EncloseOrder.j0 : Nat → Int → Bool → Bool → List Int → List Int → Bool → List Int → List Int → Option (Bool)
  | 0, _, _, _, _, _, _, _, _ => none
  | k + 1, x2, x57, x1365000, x1365001, x1365002, x1366000, x1366001, x1366002 => if x57 = true then ((steelyardlaw25_wakes.f k).bind fun t1370 => (some t1370)) else ((rat_Cmp.f k x1365000 x1365001 x1365002 x1366000 x1366001 x1366002).bind fun t1371 => (if t1371 > 0 then (steelyardlaw25_EncloseOrder.j1 k x2 x1366000 x1366001 x1366002 x1365000 x1365001 x1365002) else (steelyardlaw25_EncloseOrder.j1 k x2 x1365000 x1365001 x1365002 x1366000 x1366001 x1366002)))
def steelyardlaw25_EncloseOrder.j1 : Nat → Int → Bool → List Int → List Int → Bool → List Int → List Int → Option (Bool)
  | 0, _, _, _, _, _, _, _ => none
  | k + 1, x2, x1365000, x1365001, x1365002, x1366000, x1366001, x1366002 => (enclose_Root.f k x1365000 x1365001 x1365002 (Int.tmod (wrap64 (x2)) 20)).bind fun bt1372 => ((enclose_Root.f k x1366000 x1366001 x1366002 (Int.tmod (wrap64 (x2)) 20)).bind fun bt1389 => (if bt1372.2.2.2.2.2.2 = 0 then (if bt1389.2.2.2.2.2.2 = 0 then ((rat_Cmp.f k bt1372.1 bt1372.2.1 bt1372.2.2.1 bt1389.1 bt1389.2.1 bt1389.2.2.1).bind fun t1406 => (if t1406 ≤ 0 then ((rat_Cmp.f k bt1372.2.2.2.1 bt1372.2.2.2.2.1 bt1372.2.2.2.2.2.1 bt1389.2.2.2.1 bt1389.2.2.2.2.1 bt1389.2.2.2.2.2.1).bind fun t1407 => (if t1407 ≤ 0 then ((steelyardlaw25_wakes.f k).bind fun t1408 => (some t1408)) else (none))) else (none))) else (none)) else (none)))
end
def steelyardlaw25_EncloseOrder.f (k : Nat) (a0_0 : Bool) (l0_1 : List Int) (l0_2 : List Int) (a1_0 : Bool) (l1_1 : List Int) (l1_2 : List Int) (a2 : Int) : Option (Bool) := (steelyardref07_Good.f k a0_0 l0_1 l0_2).bind fun t1366 => (if t1366 = true then ((steelyardref07_Good.f k a1_0 l1_1 l1_2).bind fun t1367 => (if t1367 = true then (if (l0_1.length : Int) > 8 then (steelyardlaw25_EncloseOrder.j0 k a2 true a0_0 l0_1 l0_2 a1_0 l1_1 l1_2) else (if (l0_2.length : Int) > 8 then (steelyardlaw25_EncloseOrder.j0 k a2 true a0_0 l0_1 l0_2 a1_0 l1_1 l1_2) else (if (l1_1.length : Int) > 8 then (steelyardlaw25_EncloseOrder.j0 k a2 true a0_0 l0_1 l0_2 a1_0 l1_1 l1_2) else (if (l1_2.length : Int) > 8 then (steelyardlaw25_EncloseOrder.j0 k a2 true a0_0 l0_1 l0_2 a1_0 l1_1 l1_2) else ((rat_Sign.f k a0_0 l0_1 l0_2).bind fun t1368 => (if t1368 < 0 then (steelyardlaw25_EncloseOrder.j0 k a2 true a0_0 l0_1 l0_2 a1_0 l1_1 l1_2) else ((rat_Sign.f k a1_0 l1_1 l1_2).bind fun t1369 => (steelyardlaw25_EncloseOrder.j0 k a2 (decide (t1369 < 0)) a0_0 l0_1 l0_2 a1_0 l1_1 l1_2)))))))) else (steelyardlaw25_EncloseOrder.j0 k a2 true a0_0 l0_1 l0_2 a1_0 l1_1 l1_2))) else (steelyardlaw25_EncloseOrder.j0 k a2 true a0_0 l0_1 l0_2 a1_0 l1_1 l1_2))
theorem steelyardlaw25_EncloseOrder.mono_l : ∀ k, (∀ y0 y1 y2 y3 y4 y5 y6 y7, LeO (steelyardlaw25_EncloseOrder.j0 k y0 y1 y2 y3 y4 y5 y6 y7) (steelyardlaw25_EncloseOrder.j0 (k + 1) y0 y1 y2 y3 y4 y5 y6 y7)) ∧ (∀ y0 y1 y2 y3 y4 y5 y6, LeO (steelyardlaw25_EncloseOrder.j1 k y0 y1 y2 y3 y4 y5 y6) (steelyardlaw25_EncloseOrder.j1 (k + 1) y0 y1 y2 y3 y4 y5 y6))
  | 0 => ⟨fun _ _ _ _ _ _ _ _ r h => by simp [steelyardlaw25_EncloseOrder.j0] at h, fun _ _ _ _ _ _ _ r h => by simp [steelyardlaw25_EncloseOrder.j1] at h⟩
  | k + 1 => by
    obtain ⟨ih0, ih1⟩ := steelyardlaw25_EncloseOrder.mono_l k
    refine ⟨?_, ?_⟩
    · intro y0 y1 y2 y3 y4 y5 y6 y7
      unfold steelyardlaw25_EncloseOrder.j0
      repeat' first
       | with_reducible first
        | exact ih0 _ _ _ _ _ _ _ _
        | exact ih1 _ _ _ _ _ _ _
        | exact enclose_Root.mono _ _ _ _ _
        | exact rat_Cmp.mono _ _ _ _ _ _ _
        | exact rat_Sign.mono _ _ _ _
        | exact steelyardlaw25_wakes.mono _
        | exact steelyardref07_Good.mono _ _ _ _
        | exact LeO.refl _
        | exact LeO.none _
        | refine LeO.ite ?_ ?_
        | refine LeO.bind ?_ (fun _ => ?_)
       | exact LeO.none _ | refine LeO.ite ?_ ?_ | refine LeO.bind ?_ (fun _ => ?_)
    · intro y0 y1 y2 y3 y4 y5 y6
      unfold steelyardlaw25_EncloseOrder.j1
      repeat' first
       | with_reducible first
        | exact ih0 _ _ _ _ _ _ _ _
        | exact ih1 _ _ _ _ _ _ _
        | exact enclose_Root.mono _ _ _ _ _
        | exact rat_Cmp.mono _ _ _ _ _ _ _
        | exact rat_Sign.mono _ _ _ _
        | exact steelyardlaw25_wakes.mono _
        | exact steelyardref07_Good.mono _ _ _ _
        | exact LeO.refl _
        | exact LeO.none _
        | refine LeO.ite ?_ ?_
        | refine LeO.bind ?_ (fun _ => ?_)
       | exact LeO.none _ | refine LeO.ite ?_ ?_ | refine LeO.bind ?_ (fun _ => ?_)
theorem steelyardlaw25_EncloseOrder.mono : ∀ a0 a1 a2 a3 a4 a5 a6 k, LeO (steelyardlaw25_EncloseOrder.f k a0 a1 a2 a3 a4 a5 a6) (steelyardlaw25_EncloseOrder.f (k + 1) a0 a1 a2 a3 a4 a5 a6) := by
  intro a0 a1 a2 a3 a4 a5 a6 k
  obtain ⟨ih0, ih1⟩ := steelyardlaw25_EncloseOrder.mono_l k
  unfold steelyardlaw25_EncloseOrder.f
  repeat' first
   | with_reducible first
    | exact ih0 _ _ _ _ _ _ _ _
    | exact ih1 _ _ _ _ _ _ _
    | exact enclose_Root.mono _ _ _ _ _
    | exact rat_Cmp.mono _ _ _ _ _ _ _
    | exact rat_Sign.mono _ _ _ _
    | exact steelyardlaw25_wakes.mono _
    | exact steelyardref07_Good.mono _ _ _ _
    | exact LeO.refl _
    | exact LeO.none _
    | refine LeO.ite ?_ ?_
    | refine LeO.bind ?_ (fun _ => ?_)
   | exact LeO.none _ | refine LeO.ite ?_ ?_ | refine LeO.bind ?_ (fun _ => ?_)
end Go.Proofs.YtjgmmaeafodpmaaDoor.P
