/- Plain functions: what the Go functions of a package come to. -/
import Derived.Test.YtnilfndadahgaaaDoorYWords
import Derived.Test.YtnilfndadahgaaaDoorMx
set_option linter.unusedVariables false
set_option linter.unusedSimpArgs false
namespace Go.Proofs.YtnilfndadahgaaaDoor.P
open Go.RowKit Go.Proofs.YtnilfndadahgaaaDoorW.PrintWords Go.Proofs.YtnilfndadahgaaaDoorW.PrintLast Go.Proofs.YtnilfndadahgaaaDoorW.PrintMore
mutual
def steelyardlaw06_WholeLaws.j0 : Nat → Bool → Bool → List Int → Bool → List Int → Bool → List Int → Option (Bool)
  | 0, _, _, _, _, _, _, _ => none
  | k + 1, x25, x742000, x742001, x743000, x743001, x744000, x744001 => if x25 = true then ((steelyardlaw06_wakes.f k).bind fun t744 => (some t744)) else ((whole_Add.f k x742000 x742001 x743000 x743001).bind fun bt745 => ((whole_Mul.f k x742000 x742001 x743000 x743001).bind fun bt749 => ((whole_Add.f k x743000 x743001 x742000 x742001).bind fun bt755 => ((steelyardkeep_Int.f k bt745.1 bt745.2 bt755.1 bt755.2).bind fun t759 => (if t759 = true then ((whole_Mul.f k x743000 x743001 x742000 x742001).bind fun bt760 => ((steelyardkeep_Int.f k bt749.1 bt749.2 bt760.1 bt760.2).bind fun t764 => (if t764 = true then ((whole_Add.f k bt745.1 bt745.2 x744000 x744001).bind fun bt765 => ((whole_Add.f k x743000 x743001 x744000 x744001).bind fun bt769 => ((whole_Add.f k x742000 x742001 bt769.1 bt769.2).bind fun bt773 => ((steelyardkeep_Int.f k bt765.1 bt765.2 bt773.1 bt773.2).bind fun t777 => (if t777 = true then ((whole_Mul.f k bt749.1 bt749.2 x744000 x744001).bind fun bt778 => ((whole_Mul.f k x743000 x743001 x744000 x744001).bind fun bt782 => ((whole_Mul.f k x742000 x742001 bt782.1 bt782.2).bind fun bt786 => ((steelyardkeep_Int.f k bt778.1 bt778.2 bt786.1 bt786.2).bind fun t790 => (steelyardlaw06_WholeLaws.j1 k (!t790) x742000 x742001 x743000 x743001 x744000 x744001 bt749.1 bt749.2))))) else (steelyardlaw06_WholeLaws.j1 k true x742000 x742001 x743000 x743001 x744000 x744001 bt749.1 bt749.2)))))) else (steelyardlaw06_WholeLaws.j1 k true x742000 x742001 x743000 x743001 x744000 x744001 bt749.1 bt749.2)))) else (steelyardlaw06_WholeLaws.j1 k true x742000 x742001 x743000 x743001 x744000 x744001 bt749.1 bt749.2))))))
def steelyardlaw06_WholeLaws.j1 : Nat → Bool → Bool → List Int → Bool → List Int → Bool → List Int → Bool → List Int → Option (Bool)
  | 0, _, _, _, _, _, _, _, _, _ => none
  | k + 1, x70, x742000, x742001, x743000, x743001, x744000, x744001, x755000, x755001 => if x70 = true then (none) else ((whole_Add.f k x742000 x742001 x743000 x743001).bind fun bt791 => ((whole_Mul.f k bt791.1 bt791.2 x744000 x744001).bind fun bt795 => ((whole_Mul.f k x742000 x742001 x744000 x744001).bind fun bt799 => ((whole_Mul.f k x743000 x743001 x744000 x744001).bind fun bt803 => ((whole_Add.f k bt799.1 bt799.2 bt803.1 bt803.2).bind fun bt807 => ((steelyardkeep_Int.f k bt795.1 bt795.2 bt807.1 bt807.2).bind fun t811 => (if t811 = true then ((whole_Of.f k 0).bind fun bt812 => ((whole_Neg.f k x742000 x742001).bind fun bt817 => ((whole_Add.f k x742000 x742001 bt817.1 bt817.2).bind fun bt821 => ((steelyardkeep_Int.f k bt821.1 bt821.2 bt812.1 bt812.2).bind fun t825 => (if t825 = true then ((whole_Neg.f k x742000 x742001).bind fun bt826 => ((whole_Neg.f k bt826.1 bt826.2).bind fun bt830 => ((whole_Trim.f k x742000 x742001).bind fun bt834 => ((steelyardkeep_Int.f k bt830.1 bt830.2 bt834.1 bt834.2).bind fun t838 => (if t838 = true then ((whole_Of.f k 1).bind fun bt839 => ((whole_Mul.f k x742000 x742001 bt839.1 bt839.2).bind fun bt843 => ((whole_Trim.f k x742000 x742001).bind fun bt847 => ((steelyardkeep_Int.f k bt843.1 bt843.2 bt847.1 bt847.2).bind fun t851 => (if t851 = true then ((whole_Neg.f k x742000 x742001).bind fun bt852 => ((whole_Mul.f k bt852.1 bt852.2 x743000 x743001).bind fun bt856 => ((whole_Neg.f k x755000 x755001).bind fun bt860 => ((steelyardkeep_Int.f k bt856.1 bt856.2 bt860.1 bt860.2).bind fun t864 => (if t864 = true then ((steelyardlaw06_wakes.f k).bind fun t865 => (some t865)) else (none)))))) else (none)))))) else (none)))))) else (none)))))) else (none))))))))
end
def steelyardlaw06_WholeLaws.f (k : Nat) (a0_0 : Bool) (l0_1 : List Int) (a1_0 : Bool) (l1_1 : List Int) (a2_0 : Bool) (l2_1 : List Int) : Option (Bool) := if (l0_1.length : Int) > 20 then (steelyardlaw06_WholeLaws.j0 k true a0_0 l0_1 a1_0 l1_1 a2_0 l2_1) else (if (l1_1.length : Int) > 20 then (steelyardlaw06_WholeLaws.j0 k true a0_0 l0_1 a1_0 l1_1 a2_0 l2_1) else (steelyardlaw06_WholeLaws.j0 k (decide ((l2_1.length : Int) > 20)) a0_0 l0_1 a1_0 l1_1 a2_0 l2_1))
theorem steelyardlaw06_WholeLaws.mono_l : ∀ k, (∀ y0 y1 y2 y3 y4 y5 y6, LeO (steelyardlaw06_WholeLaws.j0 k y0 y1 y2 y3 y4 y5 y6) (steelyardlaw06_WholeLaws.j0 (k + 1) y0 y1 y2 y3 y4 y5 y6)) ∧ (∀ y0 y1 y2 y3 y4 y5 y6 y7 y8, LeO (steelyardlaw06_WholeLaws.j1 k y0 y1 y2 y3 y4 y5 y6 y7 y8) (steelyardlaw06_WholeLaws.j1 (k + 1) y0 y1 y2 y3 y4 y5 y6 y7 y8))
  | 0 => ⟨fun _ _ _ _ _ _ _ r h => by simp [steelyardlaw06_WholeLaws.j0] at h, fun _ _ _ _ _ _ _ _ _ r h => by simp [steelyardlaw06_WholeLaws.j1] at h⟩
  | k + 1 => by
    obtain ⟨ih0, ih1⟩ := steelyardlaw06_WholeLaws.mono_l k
    refine ⟨?_, ?_⟩
    · intro y0 y1 y2 y3 y4 y5 y6
      unfold steelyardlaw06_WholeLaws.j0
      repeat' first
      | (with_reducible exact ih0 _ _ _ _ _ _ _)
      | (with_reducible exact ih1 _ _ _ _ _ _ _ _ _)
      | (with_reducible exact steelyardkeep_Int.mono _ _ _ _ _)
      | (with_reducible exact steelyardlaw06_wakes.mono _)
      | (with_reducible exact whole_Add.mono _ _ _ _ _)
      | (with_reducible exact whole_Mul.mono _ _ _ _ _)
      | (with_reducible exact whole_Neg.mono _ _ _)
      | (with_reducible exact whole_Of.mono _ _)
      | (with_reducible exact whole_Trim.mono _ _ _)
      | (with_reducible exact LeO.refl _)
      | (with_reducible exact LeO.none _)
      | (with_reducible refine LeO.ite ?_ ?_)
      | (with_reducible refine LeO.bind ?_ (fun _ => ?_))
      | exact ih0 _ _ _ _ _ _ _
      | exact ih1 _ _ _ _ _ _ _ _ _
      | exact steelyardkeep_Int.mono _ _ _ _ _
      | exact steelyardlaw06_wakes.mono _
      | exact whole_Add.mono _ _ _ _ _
      | exact whole_Mul.mono _ _ _ _ _
      | exact whole_Neg.mono _ _ _
      | exact whole_Of.mono _ _
      | exact whole_Trim.mono _ _ _
      | exact LeO.none _
      | refine LeO.ite ?_ ?_
      | refine LeO.bind ?_ (fun _ => ?_)
    · intro y0 y1 y2 y3 y4 y5 y6 y7 y8
      unfold steelyardlaw06_WholeLaws.j1
      repeat' first
      | (with_reducible exact ih0 _ _ _ _ _ _ _)
      | (with_reducible exact ih1 _ _ _ _ _ _ _ _ _)
      | (with_reducible exact steelyardkeep_Int.mono _ _ _ _ _)
      | (with_reducible exact steelyardlaw06_wakes.mono _)
      | (with_reducible exact whole_Add.mono _ _ _ _ _)
      | (with_reducible exact whole_Mul.mono _ _ _ _ _)
      | (with_reducible exact whole_Neg.mono _ _ _)
      | (with_reducible exact whole_Of.mono _ _)
      | (with_reducible exact whole_Trim.mono _ _ _)
      | (with_reducible exact LeO.refl _)
      | (with_reducible exact LeO.none _)
      | (with_reducible refine LeO.ite ?_ ?_)
      | (with_reducible refine LeO.bind ?_ (fun _ => ?_))
      | exact ih0 _ _ _ _ _ _ _
      | exact ih1 _ _ _ _ _ _ _ _ _
      | exact steelyardkeep_Int.mono _ _ _ _ _
      | exact steelyardlaw06_wakes.mono _
      | exact whole_Add.mono _ _ _ _ _
      | exact whole_Mul.mono _ _ _ _ _
      | exact whole_Neg.mono _ _ _
      | exact whole_Of.mono _ _
      | exact whole_Trim.mono _ _ _
      | exact LeO.none _
      | refine LeO.ite ?_ ?_
      | refine LeO.bind ?_ (fun _ => ?_)
theorem steelyardlaw06_WholeLaws.mono : ∀ a0 a1 a2 a3 a4 a5 k, LeO (steelyardlaw06_WholeLaws.f k a0 a1 a2 a3 a4 a5) (steelyardlaw06_WholeLaws.f (k + 1) a0 a1 a2 a3 a4 a5) := by
  intro a0 a1 a2 a3 a4 a5 k
  obtain ⟨ih0, ih1⟩ := steelyardlaw06_WholeLaws.mono_l k
  unfold steelyardlaw06_WholeLaws.f
  repeat' first
      | (with_reducible exact ih0 _ _ _ _ _ _ _)
      | (with_reducible exact ih1 _ _ _ _ _ _ _ _ _)
      | (with_reducible exact steelyardkeep_Int.mono _ _ _ _ _)
      | (with_reducible exact steelyardlaw06_wakes.mono _)
      | (with_reducible exact whole_Add.mono _ _ _ _ _)
      | (with_reducible exact whole_Mul.mono _ _ _ _ _)
      | (with_reducible exact whole_Neg.mono _ _ _)
      | (with_reducible exact whole_Of.mono _ _)
      | (with_reducible exact whole_Trim.mono _ _ _)
      | (with_reducible exact LeO.refl _)
      | (with_reducible exact LeO.none _)
      | (with_reducible refine LeO.ite ?_ ?_)
      | (with_reducible refine LeO.bind ?_ (fun _ => ?_))
      | exact ih0 _ _ _ _ _ _ _
      | exact ih1 _ _ _ _ _ _ _ _ _
      | exact steelyardkeep_Int.mono _ _ _ _ _
      | exact steelyardlaw06_wakes.mono _
      | exact whole_Add.mono _ _ _ _ _
      | exact whole_Mul.mono _ _ _ _ _
      | exact whole_Neg.mono _ _ _
      | exact whole_Of.mono _ _
      | exact whole_Trim.mono _ _ _
      | exact LeO.none _
      | refine LeO.ite ?_ ?_
      | refine LeO.bind ?_ (fun _ => ?_)
end Go.Proofs.YtnilfndadahgaaaDoor.P
