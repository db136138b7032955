/- Plain functions: what the Go functions of a package come to. -/
import Derived.Test.YtnilfndadahgaaaDoorYWords
import Derived.Test.YtnilfndadahgaaaDoorMx
set_option linter.unusedVariables false
set_option linter.unusedSimpArgs false
namespace Go.Proofs.YtnilfndadahgaaaDoor.P
open Go.RowKit Go.Proofs.YtnilfndadahgaaaDoorW.PrintWords Go.Proofs.YtnilfndadahgaaaDoorW.PrintLast Go.Proofs.YtnilfndadahgaaaDoorW.PrintMore
mutual
def steelyardlaw06_WholeOrder.j0 : Nat → Bool → Bool → List Int → Bool → List Int → Bool → List Int → Option (Bool)
  | 0, _, _, _, _, _, _, _ => none
  | k + 1, x26, x867000, x867001, x868000, x868001, x869000, x869001 => if x26 = true then ((steelyardlaw06_wakes.f k).bind fun t869 => (some t869)) else ((whole_Cmp.f k x867000 x867001 x868000 x868001).bind fun t870 => ((whole_Cmp.f k x868000 x868001 x867000 x867001).bind fun t871 => (if t870 = (wrap64 (-t871)) then ((whole_Add.f k x867000 x867001 x869000 x869001).bind fun bt872 => ((whole_Add.f k x868000 x868001 x869000 x869001).bind fun bt876 => ((whole_Cmp.f k bt872.1 bt872.2 bt876.1 bt876.2).bind fun t880 => (if t880 = t870 then ((whole_Neg.f k x867000 x867001).bind fun bt881 => ((whole_Neg.f k x868000 x868001).bind fun bt885 => ((whole_Cmp.f k bt881.1 bt881.2 bt885.1 bt885.2).bind fun t889 => (steelyardlaw06_WholeOrder.j1 k t870 (t889 != (wrap64 (-t870))) x867000 x867001 x868000 x868001 x869000 x869001)))) else (steelyardlaw06_WholeOrder.j1 k t870 true x867000 x867001 x868000 x868001 x869000 x869001))))) else (steelyardlaw06_WholeOrder.j1 k t870 true x867000 x867001 x868000 x868001 x869000 x869001))))
def steelyardlaw06_WholeOrder.j1 : Nat → Int → Bool → Bool → List Int → Bool → List Int → Bool → List Int → Option (Bool)
  | 0, _, _, _, _, _, _, _, _ => none
  | k + 1, x7, x57, x867000, x867001, x868000, x868001, x869000, x869001 => if x57 = true then (none) else ((whole_Of.f k 0).bind fun bt890 => ((whole_Cmp.f k x869000 x869001 bt890.1 bt890.2).bind fun t894 => ((whole_Mul.f k x867000 x867001 x869000 x869001).bind fun bt895 => ((whole_Mul.f k x868000 x868001 x869000 x869001).bind fun bt899 => ((whole_Cmp.f k bt895.1 bt895.2 bt899.1 bt899.2).bind fun t903 => (if t903 = (wrap64 (x7 * t894)) then ((whole_Text.f k x867000 x867001).bind fun t904 => ((whole_Parse.f k t904).bind fun bt905 => (if bt905.2.2 = true then ((whole_Trim.f k x867000 x867001).bind fun bt911 => ((steelyardkeep_Int.f k bt905.1 bt905.2.1 bt911.1 bt911.2).bind fun t915 => (if t915 = true then ((steelyardlaw06_wakes.f k).bind fun t916 => (some t916)) else (none)))) else (none)))) else (none)))))))
end
def steelyardlaw06_WholeOrder.f (k : Nat) (a0_0 : Bool) (l0_1 : List Int) (a1_0 : Bool) (l1_1 : List Int) (a2_0 : Bool) (l2_1 : List Int) : Option (Bool) := if (l0_1.length : Int) > 20 then (steelyardlaw06_WholeOrder.j0 k true a0_0 l0_1 a1_0 l1_1 a2_0 l2_1) else (if (l1_1.length : Int) > 20 then (steelyardlaw06_WholeOrder.j0 k true a0_0 l0_1 a1_0 l1_1 a2_0 l2_1) else (steelyardlaw06_WholeOrder.j0 k (decide ((l2_1.length : Int) > 20)) a0_0 l0_1 a1_0 l1_1 a2_0 l2_1))
theorem steelyardlaw06_WholeOrder.mono_l : ∀ k, (∀ y0 y1 y2 y3 y4 y5 y6, LeO (steelyardlaw06_WholeOrder.j0 k y0 y1 y2 y3 y4 y5 y6) (steelyardlaw06_WholeOrder.j0 (k + 1) y0 y1 y2 y3 y4 y5 y6)) ∧ (∀ y0 y1 y2 y3 y4 y5 y6 y7, LeO (steelyardlaw06_WholeOrder.j1 k y0 y1 y2 y3 y4 y5 y6 y7) (steelyardlaw06_WholeOrder.j1 (k + 1) y0 y1 y2 y3 y4 y5 y6 y7))
  | 0 => ⟨fun _ _ _ _ _ _ _ r h => by simp [steelyardlaw06_WholeOrder.j0] at h, fun _ _ _ _ _ _ _ _ r h => by simp [steelyardlaw06_WholeOrder.j1] at h⟩
  | k + 1 => by
    obtain ⟨ih0, ih1⟩ := steelyardlaw06_WholeOrder.mono_l k
    refine ⟨?_, ?_⟩
    · intro y0 y1 y2 y3 y4 y5 y6
      unfold steelyardlaw06_WholeOrder.j0
      repeat' first
      | (with_reducible exact ih0 _ _ _ _ _ _ _)
      | (with_reducible exact ih1 _ _ _ _ _ _ _ _)
      | (with_reducible exact steelyardkeep_Int.mono _ _ _ _ _)
      | (with_reducible exact steelyardlaw06_wakes.mono _)
      | (with_reducible exact whole_Add.mono _ _ _ _ _)
      | (with_reducible exact whole_Cmp.mono _ _ _ _ _)
      | (with_reducible exact whole_Mul.mono _ _ _ _ _)
      | (with_reducible exact whole_Neg.mono _ _ _)
      | (with_reducible exact whole_Of.mono _ _)
      | (with_reducible exact whole_Parse.mono _ _)
      | (with_reducible exact whole_Text.mono _ _ _)
      | (with_reducible exact whole_Trim.mono _ _ _)
      | (with_reducible exact LeO.refl _)
      | (with_reducible exact LeO.none _)
      | (with_reducible refine LeO.ite ?_ ?_)
      | (with_reducible refine LeO.bind ?_ (fun _ => ?_))
      | exact ih0 _ _ _ _ _ _ _
      | exact ih1 _ _ _ _ _ _ _ _
      | exact steelyardkeep_Int.mono _ _ _ _ _
      | exact steelyardlaw06_wakes.mono _
      | exact whole_Add.mono _ _ _ _ _
      | exact whole_Cmp.mono _ _ _ _ _
      | exact whole_Mul.mono _ _ _ _ _
      | exact whole_Neg.mono _ _ _
      | exact whole_Of.mono _ _
      | exact whole_Parse.mono _ _
      | exact whole_Text.mono _ _ _
      | exact whole_Trim.mono _ _ _
      | exact LeO.none _
      | refine LeO.ite ?_ ?_
      | refine LeO.bind ?_ (fun _ => ?_)
    · intro y0 y1 y2 y3 y4 y5 y6 y7
      unfold steelyardlaw06_WholeOrder.j1
      repeat' first
      | (with_reducible exact ih0 _ _ _ _ _ _ _)
      | (with_reducible exact ih1 _ _ _ _ _ _ _ _)
      | (with_reducible exact steelyardkeep_Int.mono _ _ _ _ _)
      | (with_reducible exact steelyardlaw06_wakes.mono _)
      | (with_reducible exact whole_Add.mono _ _ _ _ _)
      | (with_reducible exact whole_Cmp.mono _ _ _ _ _)
      | (with_reducible exact whole_Mul.mono _ _ _ _ _)
      | (with_reducible exact whole_Neg.mono _ _ _)
      | (with_reducible exact whole_Of.mono _ _)
      | (with_reducible exact whole_Parse.mono _ _)
      | (with_reducible exact whole_Text.mono _ _ _)
      | (with_reducible exact whole_Trim.mono _ _ _)
      | (with_reducible exact LeO.refl _)
      | (with_reducible exact LeO.none _)
      | (with_reducible refine LeO.ite ?_ ?_)
      | (with_reducible refine LeO.bind ?_ (fun _ => ?_))
      | exact ih0 _ _ _ _ _ _ _
      | exact ih1 _ _ _ _ _ _ _ _
      | exact steelyardkeep_Int.mono _ _ _ _ _
      | exact steelyardlaw06_wakes.mono _
      | exact whole_Add.mono _ _ _ _ _
      | exact whole_Cmp.mono _ _ _ _ _
      | exact whole_Mul.mono _ _ _ _ _
      | exact whole_Neg.mono _ _ _
      | exact whole_Of.mono _ _
      | exact whole_Parse.mono _ _
      | exact whole_Text.mono _ _ _
      | exact whole_Trim.mono _ _ _
      | exact LeO.none _
      | refine LeO.ite ?_ ?_
      | refine LeO.bind ?_ (fun _ => ?_)
theorem steelyardlaw06_WholeOrder.mono : ∀ a0 a1 a2 a3 a4 a5 k, LeO (steelyardlaw06_WholeOrder.f k a0 a1 a2 a3 a4 a5) (steelyardlaw06_WholeOrder.f (k + 1) a0 a1 a2 a3 a4 a5) := by
  intro a0 a1 a2 a3 a4 a5 k
  obtain ⟨ih0, ih1⟩ := steelyardlaw06_WholeOrder.mono_l k
  unfold steelyardlaw06_WholeOrder.f
  repeat' first
      | (with_reducible exact ih0 _ _ _ _ _ _ _)
      | (with_reducible exact ih1 _ _ _ _ _ _ _ _)
      | (with_reducible exact steelyardkeep_Int.mono _ _ _ _ _)
      | (with_reducible exact steelyardlaw06_wakes.mono _)
      | (with_reducible exact whole_Add.mono _ _ _ _ _)
      | (with_reducible exact whole_Cmp.mono _ _ _ _ _)
      | (with_reducible exact whole_Mul.mono _ _ _ _ _)
      | (with_reducible exact whole_Neg.mono _ _ _)
      | (with_reducible exact whole_Of.mono _ _)
      | (with_reducible exact whole_Parse.mono _ _)
      | (with_reducible exact whole_Text.mono _ _ _)
      | (with_reducible exact whole_Trim.mono _ _ _)
      | (with_reducible exact LeO.refl _)
      | (with_reducible exact LeO.none _)
      | (with_reducible refine LeO.ite ?_ ?_)
      | (with_reducible refine LeO.bind ?_ (fun _ => ?_))
      | exact ih0 _ _ _ _ _ _ _
      | exact ih1 _ _ _ _ _ _ _ _
      | exact steelyardkeep_Int.mono _ _ _ _ _
      | exact steelyardlaw06_wakes.mono _
      | exact whole_Add.mono _ _ _ _ _
      | exact whole_Cmp.mono _ _ _ _ _
      | exact whole_Mul.mono _ _ _ _ _
      | exact whole_Neg.mono _ _ _
      | exact whole_Of.mono _ _
      | exact whole_Parse.mono _ _
      | exact whole_Text.mono _ _ _
      | exact whole_Trim.mono _ _ _
      | exact LeO.none _
      | refine LeO.ite ?_ ?_
      | refine LeO.bind ?_ (fun _ => ?_)
end Go.Proofs.YtnilfndadahgaaaDoor.P
