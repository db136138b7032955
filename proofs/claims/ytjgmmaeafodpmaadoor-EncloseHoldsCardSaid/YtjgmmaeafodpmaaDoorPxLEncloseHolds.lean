/- Plain functions: what the Go functions of a package come to. -/
import Derived.Test.YtjgmmaeafodpmaaDoorYWords
import Derived.Test.YtjgmmaeafodpmaaDoorMx
set_option linter.unusedVariables false
set_option linter.unusedSimpArgs false
namespace Go.Proofs.YtjgmmaeafodpmaaDoor.P
open Go.RowKit Go.Proofs.YtjgmmaeafodpmaaDoorW.PrintWords Go.Proofs.YtjgmmaeafodpmaaDoorW.PrintLast Go.Proofs.YtjgmmaeafodpmaaDoorW.PrintMore
mutual
def steelyardlaw25_EncloseHolds.j0 : Nat → Int → Bool → Bool → List Int → List Int → Option (Bool)
  | 0, _, _, _, _, _ => none
  | k + 1, x1, x29, x1149000, x1149001, x1149002 => if x29 = true then ((steelyardlaw25_wakes.f k).bind fun t1150 => (some t1150)) else ((enclose_Root.f k x1149000 x1149001 x1149002 (Int.tmod (wrap64 (x1)) 20)).bind fun bt1151 => ((rat_Sign.f k x1149000 x1149001 x1149002).bind fun t1168 => (if t1168 < 0 then (if bt1151.2.2.2.2.2.2 = 18 then (if (bt1151.2.2.1.length : Int) = 0 then (if (bt1151.2.2.2.2.2.1.length : Int) = 0 then ((steelyardlaw25_wakes.f k).bind fun t1169 => (some t1169)) else (none)) else (none)) else (none)) else (if bt1151.2.2.2.2.2.2 = 0 then ((rat_Sign.f k bt1151.1 bt1151.2.1 bt1151.2.2.1).bind fun t1170 => (steelyardlaw25_EncloseHolds.j1 k (Int.tmod (wrap64 (x1)) 20) (decide (t1170 < 0)) x1149000 x1149001 x1149002 bt1151.1 bt1151.2.1 bt1151.2.2.1 bt1151.2.2.2.1 bt1151.2.2.2.2.1 bt1151.2.2.2.2.2.1)) else (steelyardlaw25_EncloseHolds.j1 k (Int.tmod (wrap64 (x1)) 20) true x1149000 x1149001 x1149002 bt1151.1 bt1151.2.1 bt1151.2.2.1 bt1151.2.2.2.1 bt1151.2.2.2.2.1 bt1151.2.2.2.2.2.1)))))
def steelyardlaw25_EncloseHolds.j1 : Nat → Int → Bool → Bool → List Int → List Int → Bool → List Int → List Int → Bool → List Int → List Int → Option (Bool)
  | 0, _, _, _, _, _, _, _, _, _, _, _ => none
  | k + 1, x5, x67, x1149000, x1149001, x1149002, x1167000, x1167001, x1167002, x1168000, x1168001, x1168002 => if x67 = true then (none) else ((steelyardlaw07_By.f k 1 1).bind fun bt1171 => (steelyardlaw25_EncloseHolds.l0 k x5 0 x1149000 x1149001 x1149002 x1167000 x1167001 x1167002 x1168000 x1168001 x1168002 bt1171.1 bt1171.2.1 bt1171.2.2))
def steelyardlaw25_EncloseHolds.l0 : Nat → Int → Int → Bool → List Int → List Int → Bool → List Int → List Int → Bool → List Int → List Int → Bool → List Int → List Int → Option (Bool)
  | 0, _, _, _, _, _, _, _, _, _, _, _, _, _, _ => none
  | k + 1, x5, x10, x1149000, x1149001, x1149002, x1167000, x1167001, x1167002, x1168000, x1168001, x1168002, x1179000, x1179001, x1179002 => if x10 < x5 then ((steelyardlaw07_By.f k 1 10).bind fun bt1179 => ((steelyardref07_Times.f k x1179000 x1179001 x1179002 bt1179.1 bt1179.2.1 bt1179.2.2).bind fun bt1186 => (steelyardlaw25_EncloseHolds.l0 k x5 (wrap64 (x10 + 1)) x1149000 x1149001 x1149002 x1167000 x1167001 x1167002 x1168000 x1168001 x1168002 bt1186.1 bt1186.2.1 bt1186.2.2))) else ((steelyardref07_Neg.f k x1167000 x1167001 x1167002).bind fun bt1193 => ((steelyardref07_Plus.f k x1168000 x1168001 x1168002 bt1193.1 bt1193.2.1 bt1193.2.2).bind fun bt1200 => ((steelyardref07_Times.f k x1167000 x1167001 x1167002 x1167000 x1167001 x1167002).bind fun bt1208 => ((steelyardref07_Less.f k bt1208.1 bt1208.2.1 bt1208.2.2 x1149000 x1149001 x1149002).bind fun t1215 => (if t1215 > 0 then (steelyardlaw25_EncloseHolds.j3 k true x1149000 x1149001 x1149002 x1167000 x1167001 x1167002 x1179000 x1179001 x1179002 bt1200.1 bt1200.2.1 bt1200.2.2) else ((steelyardref07_Times.f k x1168000 x1168001 x1168002 x1168000 x1168001 x1168002).bind fun bt1216 => ((steelyardref07_Less.f k bt1216.1 bt1216.2.1 bt1216.2.2 x1149000 x1149001 x1149002).bind fun t1223 => (steelyardlaw25_EncloseHolds.j3 k (decide (t1223 < 0)) x1149000 x1149001 x1149002 x1167000 x1167001 x1167002 x1179000 x1179001 x1179002 bt1200.1 bt1200.2.1 bt1200.2.2))))))))
def steelyardlaw25_EncloseHolds.j3 : Nat → Bool → Bool → List Int → List Int → Bool → List Int → List Int → Bool → List Int → List Int → Bool → List Int → List Int → Option (Bool)
  | 0, _, _, _, _, _, _, _, _, _, _, _, _, _ => none
  | k + 1, x94, x1149000, x1149001, x1149002, x1167000, x1167001, x1167002, x1179000, x1179001, x1179002, x1208000, x1208001, x1208002 => if x94 = true then (none) else ((steelyardref07_Less.f k x1208000 x1208001 x1208002 x1179000 x1179001 x1179002).bind fun t1224 => (if t1224 = 0 then ((steelyardref07_Times.f k x1167000 x1167001 x1167002 x1167000 x1167001 x1167002).bind fun bt1225 => ((steelyardref07_Less.f k bt1225.1 bt1225.2.1 bt1225.2.2 x1149000 x1149001 x1149002).bind fun t1232 => (if (((x1208001.length : Int) == 0) == (t1232 == 0)) = true then ((steelyardlaw25_wakes.f k).bind fun t1233 => (some t1233)) else (none)))) else (if (x1208001.length : Int) = 0 then ((steelyardref07_Times.f k x1167000 x1167001 x1167002 x1167000 x1167001 x1167002).bind fun bt1234 => ((steelyardref07_Less.f k bt1234.1 bt1234.2.1 bt1234.2.2 x1149000 x1149001 x1149002).bind fun t1241 => (if t1241 = 0 then ((steelyardlaw25_wakes.f k).bind fun t1242 => (some t1242)) else (none)))) else (none))))
end
def steelyardlaw25_EncloseHolds.f (k : Nat) (a0_0 : Bool) (l0_1 : List Int) (l0_2 : List Int) (a1 : Int) : Option (Bool) := (steelyardref07_Good.f k a0_0 l0_1 l0_2).bind fun t1149 => (if t1149 = true then (if (l0_1.length : Int) > 12 then (steelyardlaw25_EncloseHolds.j0 k a1 true a0_0 l0_1 l0_2) else (steelyardlaw25_EncloseHolds.j0 k a1 (decide ((l0_2.length : Int) > 12)) a0_0 l0_1 l0_2)) else (steelyardlaw25_EncloseHolds.j0 k a1 true a0_0 l0_1 l0_2))
theorem steelyardlaw25_EncloseHolds.mono_l : ∀ k, (∀ y0 y1 y2 y3 y4, LeO (steelyardlaw25_EncloseHolds.j0 k y0 y1 y2 y3 y4) (steelyardlaw25_EncloseHolds.j0 (k + 1) y0 y1 y2 y3 y4)) ∧ (∀ y0 y1 y2 y3 y4 y5 y6 y7 y8 y9 y10, LeO (steelyardlaw25_EncloseHolds.j1 k y0 y1 y2 y3 y4 y5 y6 y7 y8 y9 y10) (steelyardlaw25_EncloseHolds.j1 (k + 1) y0 y1 y2 y3 y4 y5 y6 y7 y8 y9 y10)) ∧ (∀ y0 y1 y2 y3 y4 y5 y6 y7 y8 y9 y10 y11 y12 y13, LeO (steelyardlaw25_EncloseHolds.l0 k y0 y1 y2 y3 y4 y5 y6 y7 y8 y9 y10 y11 y12 y13) (steelyardlaw25_EncloseHolds.l0 (k + 1) y0 y1 y2 y3 y4 y5 y6 y7 y8 y9 y10 y11 y12 y13)) ∧ (∀ y0 y1 y2 y3 y4 y5 y6 y7 y8 y9 y10 y11 y12, LeO (steelyardlaw25_EncloseHolds.j3 k y0 y1 y2 y3 y4 y5 y6 y7 y8 y9 y10 y11 y12) (steelyardlaw25_EncloseHolds.j3 (k + 1) y0 y1 y2 y3 y4 y5 y6 y7 y8 y9 y10 y11 y12))
  | 0 => ⟨fun _ _ _ _ _ r h => by simp [steelyardlaw25_EncloseHolds.j0] at h, fun _ _ _ _ _ _ _ _ _ _ _ r h => by simp [steelyardlaw25_EncloseHolds.j1] at h, fun _ _ _ _ _ _ _ _ _ _ _ _ _ _ r h => by simp [steelyardlaw25_EncloseHolds.l0] at h, fun _ _ _ _ _ _ _ _ _ _ _ _ _ r h => by simp [steelyardlaw25_EncloseHolds.j3] at h⟩
  | k + 1 => by
    obtain ⟨ih0, ih1, ih2, ih3⟩ := steelyardlaw25_EncloseHolds.mono_l k
    refine ⟨?_, ?_, ?_, ?_⟩
    · intro y0 y1 y2 y3 y4
      unfold steelyardlaw25_EncloseHolds.j0
      repeat' first
       | with_reducible first
        | exact ih0 _ _ _ _ _
        | exact ih1 _ _ _ _ _ _ _ _ _ _ _
        | exact ih2 _ _ _ _ _ _ _ _ _ _ _ _ _ _
        | exact ih3 _ _ _ _ _ _ _ _ _ _ _ _ _
        | exact enclose_Root.mono _ _ _ _ _
        | exact rat_Sign.mono _ _ _ _
        | exact steelyardlaw07_By.mono _ _ _
        | exact steelyardlaw25_wakes.mono _
        | exact steelyardref07_Good.mono _ _ _ _
        | exact steelyardref07_Less.mono _ _ _ _ _ _ _
        | exact steelyardref07_Neg.mono _ _ _ _
        | exact steelyardref07_Plus.mono _ _ _ _ _ _ _
        | exact steelyardref07_Times.mono _ _ _ _ _ _ _
        | exact LeO.refl _
        | exact LeO.none _
        | refine LeO.ite ?_ ?_
        | refine LeO.bind ?_ (fun _ => ?_)
       | exact LeO.none _ | refine LeO.ite ?_ ?_ | refine LeO.bind ?_ (fun _ => ?_)
    · intro y0 y1 y2 y3 y4 y5 y6 y7 y8 y9 y10
      unfold steelyardlaw25_EncloseHolds.j1
      repeat' first
       | with_reducible first
        | exact ih0 _ _ _ _ _
        | exact ih1 _ _ _ _ _ _ _ _ _ _ _
        | exact ih2 _ _ _ _ _ _ _ _ _ _ _ _ _ _
        | exact ih3 _ _ _ _ _ _ _ _ _ _ _ _ _
        | exact enclose_Root.mono _ _ _ _ _
        | exact rat_Sign.mono _ _ _ _
        | exact steelyardlaw07_By.mono _ _ _
        | exact steelyardlaw25_wakes.mono _
        | exact steelyardref07_Good.mono _ _ _ _
        | exact steelyardref07_Less.mono _ _ _ _ _ _ _
        | exact steelyardref07_Neg.mono _ _ _ _
        | exact steelyardref07_Plus.mono _ _ _ _ _ _ _
        | exact steelyardref07_Times.mono _ _ _ _ _ _ _
        | exact LeO.refl _
        | exact LeO.none _
        | refine LeO.ite ?_ ?_
        | refine LeO.bind ?_ (fun _ => ?_)
       | exact LeO.none _ | refine LeO.ite ?_ ?_ | refine LeO.bind ?_ (fun _ => ?_)
    · intro y0 y1 y2 y3 y4 y5 y6 y7 y8 y9 y10 y11 y12 y13
      unfold steelyardlaw25_EncloseHolds.l0
      repeat' first
       | with_reducible first
        | exact ih0 _ _ _ _ _
        | exact ih1 _ _ _ _ _ _ _ _ _ _ _
        | exact ih2 _ _ _ _ _ _ _ _ _ _ _ _ _ _
        | exact ih3 _ _ _ _ _ _ _ _ _ _ _ _ _
        | exact enclose_Root.mono _ _ _ _ _
        | exact rat_Sign.mono _ _ _ _
        | exact steelyardlaw07_By.mono _ _ _
        | exact steelyardlaw25_wakes.mono _
        | exact steelyardref07_Good.mono _ _ _ _
        | exact steelyardref07_Less.mono _ _ _ _ _ _ _
        | exact steelyardref07_Neg.mono _ _ _ _
        | exact steelyardref07_Plus.mono _ _ _ _ _ _ _
        | exact steelyardref07_Times.mono _ _ _ _ _ _ _
        | exact LeO.refl _
        | exact LeO.none _
        | refine LeO.ite ?_ ?_
        | refine LeO.bind ?_ (fun _ => ?_)
       | exact LeO.none _ | refine LeO.ite ?_ ?_ | refine LeO.bind ?_ (fun _ => ?_)
    · intro y0 y1 y2 y3 y4 y5 y6 y7 y8 y9 y10 y11 y12
      unfold steelyardlaw25_EncloseHolds.j3
      repeat' first
       | with_reducible first
        | exact ih0 _ _ _ _ _
        | exact ih1 _ _ _ _ _ _ _ _ _ _ _
        | exact ih2 _ _ _ _ _ _ _ _ _ _ _ _ _ _
        | exact ih3 _ _ _ _ _ _ _ _ _ _ _ _ _
        | exact enclose_Root.mono _ _ _ _ _
        | exact rat_Sign.mono _ _ _ _
        | exact steelyardlaw07_By.mono _ _ _
        | exact steelyardlaw25_wakes.mono _
        | exact steelyardref07_Good.mono _ _ _ _
        | exact steelyardref07_Less.mono _ _ _ _ _ _ _
        | exact steelyardref07_Neg.mono _ _ _ _
        | exact steelyardref07_Plus.mono _ _ _ _ _ _ _
        | exact steelyardref07_Times.mono _ _ _ _ _ _ _
        | exact LeO.refl _
        | exact LeO.none _
        | refine LeO.ite ?_ ?_
        | refine LeO.bind ?_ (fun _ => ?_)
       | exact LeO.none _ | refine LeO.ite ?_ ?_ | refine LeO.bind ?_ (fun _ => ?_)
theorem steelyardlaw25_EncloseHolds.mono : ∀ a0 a1 a2 a3 k, LeO (steelyardlaw25_EncloseHolds.f k a0 a1 a2 a3) (steelyardlaw25_EncloseHolds.f (k + 1) a0 a1 a2 a3) := by
  intro a0 a1 a2 a3 k
  obtain ⟨ih0, ih1, ih2, ih3⟩ := steelyardlaw25_EncloseHolds.mono_l k
  unfold steelyardlaw25_EncloseHolds.f
  repeat' first
   | with_reducible first
    | exact ih0 _ _ _ _ _
    | exact ih1 _ _ _ _ _ _ _ _ _ _ _
    | exact ih2 _ _ _ _ _ _ _ _ _ _ _ _ _ _
    | exact ih3 _ _ _ _ _ _ _ _ _ _ _ _ _
    | exact enclose_Root.mono _ _ _ _ _
    | exact rat_Sign.mono _ _ _ _
    | exact steelyardlaw07_By.mono _ _ _
    | exact steelyardlaw25_wakes.mono _
    | exact steelyardref07_Good.mono _ _ _ _
    | exact steelyardref07_Less.mono _ _ _ _ _ _ _
    | exact steelyardref07_Neg.mono _ _ _ _
    | exact steelyardref07_Plus.mono _ _ _ _ _ _ _
    | exact steelyardref07_Times.mono _ _ _ _ _ _ _
    | exact LeO.refl _
    | exact LeO.none _
    | refine LeO.ite ?_ ?_
    | refine LeO.bind ?_ (fun _ => ?_)
   | exact LeO.none _ | refine LeO.ite ?_ ?_ | refine LeO.bind ?_ (fun _ => ?_)
end Go.Proofs.YtjgmmaeafodpmaaDoor.P
