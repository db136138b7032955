/- Plain functions: what the Go functions of a package come to. -/
import Derived.Test.YtnilfndadahgaaaDoorMx
set_option linter.unusedVariables false
set_option linter.unusedSimpArgs false
namespace Go.Proofs.YtnilfndadahgaaaDoor.P
open Go.RowKit Go.Proofs.YtnilfndadahgaaaDoorW.PrintWords Go.Proofs.YtnilfndadahgaaaDoorW.PrintLast Go.Proofs.YtnilfndadahgaaaDoorW.PrintMore
mutual
def steelyardlaw06_WholeTexts.j0 : Nat → Bool → Bool → List Int → Bool → List Int → Option (Bool)
  | 0, _, _, _, _, _ => none
  | k + 1, x14, x974000, x974001, x975000, x975001 => if x14 = true then ((steelyardlaw06_wakes.f k).bind fun t977 => (some t977)) else ((whole_Text.f k x974000 x974001).bind fun t978 => ((whole_Text.f k x975000 x975001).bind fun t979 => ((whole_Cmp.f k x974000 x974001 x975000 x975001).bind fun t980 => (if ((t978.toList == t979.toList) != (t980 == 0)) = true then (steelyardlaw06_WholeTexts.j1 k t978 true x974000 x974001) else (if (t978.size : Int) = 0 then (steelyardlaw06_WholeTexts.j1 k t978 true x974000 x974001) else (if 0 < (t978.size : Int) then ((whole_Of.f k 0).bind fun bt981 => ((whole_Cmp.f k x974000 x974001 bt981.1 bt981.2).bind fun t985 => (steelyardlaw06_WholeTexts.j1 k t978 (((bt t978 0) == 45) != (decide (t985 < 0))) x974000 x974001))) else (none)))))))
def steelyardlaw06_WholeTexts.j1 : Nat → ByteArray → Bool → Bool → List Int → Option (Bool)
  | 0, _, _, _, _ => none
  | k + 1, x5, x42, x974000, x974001 => if x42 = true then (none) else (if 1 + x5.size ≤ 9223372036854775807 then ((whole_Parse.f k ((⟨#[45]⟩ : ByteArray) ++ x5)).bind fun bt986 => ((whole_Of.f k 0).bind fun bt992 => ((whole_Cmp.f k x974000 x974001 bt992.1 bt992.2).bind fun t996 => (if (bt986.2.2 == (decide (t996 > 0))) = true then (if bt986.2.2 = true then ((whole_Neg.f k x974000 x974001).bind fun bt997 => ((steelyardkeep_Int.f k bt986.1 bt986.2.1 bt997.1 bt997.2).bind fun t1001 => (if t1001 = true then ((steelyardlaw06_wakes.f k).bind fun t1002 => (some t1002)) else (none)))) else ((steelyardlaw06_wakes.f k).bind fun t1003 => (some t1003))) else (none))))) else (none))
end
def steelyardlaw06_WholeTexts.f (k : Nat) (a0_0 : Bool) (l0_1 : List Int) (a1_0 : Bool) (l1_1 : List Int) : Option (Bool) := (steelyardlaw06_Long.f a0_0 l0_1).bind fun t975 => (if t975 = true then (steelyardlaw06_WholeTexts.j0 k true a0_0 l0_1 a1_0 l1_1) else ((steelyardlaw06_Long.f a1_0 l1_1).bind fun t976 => (steelyardlaw06_WholeTexts.j0 k t976 a0_0 l0_1 a1_0 l1_1)))
theorem steelyardlaw06_WholeTexts.mono_l : ∀ k, (∀ y0 y1 y2 y3 y4, LeO (steelyardlaw06_WholeTexts.j0 k y0 y1 y2 y3 y4) (steelyardlaw06_WholeTexts.j0 (k + 1) y0 y1 y2 y3 y4)) ∧ (∀ y0 y1 y2 y3, LeO (steelyardlaw06_WholeTexts.j1 k y0 y1 y2 y3) (steelyardlaw06_WholeTexts.j1 (k + 1) y0 y1 y2 y3))
  | 0 => ⟨fun _ _ _ _ _ r h => by simp [steelyardlaw06_WholeTexts.j0] at h, fun _ _ _ _ r h => by simp [steelyardlaw06_WholeTexts.j1] at h⟩
  | k + 1 => by
    obtain ⟨ih0, ih1⟩ := steelyardlaw06_WholeTexts.mono_l k
    refine ⟨?_, ?_⟩
    · intro y0 y1 y2 y3 y4
      unfold steelyardlaw06_WholeTexts.j0
      repeat' first
      | (with_reducible exact ih0 _ _ _ _ _)
      | (with_reducible exact ih1 _ _ _ _)
      | (with_reducible exact steelyardkeep_Int.mono _ _ _ _ _)
      | (with_reducible exact steelyardlaw06_wakes.mono _)
      | (with_reducible exact whole_Cmp.mono _ _ _ _ _)
      | (with_reducible exact whole_Neg.mono _ _ _)
      | (with_reducible exact whole_Of.mono _ _)
      | (with_reducible exact whole_Parse.mono _ _)
      | (with_reducible exact whole_Text.mono _ _ _)
      | (with_reducible exact LeO.refl _)
      | (with_reducible exact LeO.none _)
      | (with_reducible refine LeO.ite ?_ ?_)
      | (with_reducible refine LeO.bind ?_ (fun _ => ?_))
      | exact ih0 _ _ _ _ _
      | exact ih1 _ _ _ _
      | exact steelyardkeep_Int.mono _ _ _ _ _
      | exact steelyardlaw06_wakes.mono _
      | exact whole_Cmp.mono _ _ _ _ _
      | exact whole_Neg.mono _ _ _
      | exact whole_Of.mono _ _
      | exact whole_Parse.mono _ _
      | exact whole_Text.mono _ _ _
      | exact LeO.none _
      | refine LeO.ite ?_ ?_
      | refine LeO.bind ?_ (fun _ => ?_)
    · intro y0 y1 y2 y3
      unfold steelyardlaw06_WholeTexts.j1
      repeat' first
      | (with_reducible exact ih0 _ _ _ _ _)
      | (with_reducible exact ih1 _ _ _ _)
      | (with_reducible exact steelyardkeep_Int.mono _ _ _ _ _)
      | (with_reducible exact steelyardlaw06_wakes.mono _)
      | (with_reducible exact whole_Cmp.mono _ _ _ _ _)
      | (with_reducible exact whole_Neg.mono _ _ _)
      | (with_reducible exact whole_Of.mono _ _)
      | (with_reducible exact whole_Parse.mono _ _)
      | (with_reducible exact whole_Text.mono _ _ _)
      | (with_reducible exact LeO.refl _)
      | (with_reducible exact LeO.none _)
      | (with_reducible refine LeO.ite ?_ ?_)
      | (with_reducible refine LeO.bind ?_ (fun _ => ?_))
      | exact ih0 _ _ _ _ _
      | exact ih1 _ _ _ _
      | exact steelyardkeep_Int.mono _ _ _ _ _
      | exact steelyardlaw06_wakes.mono _
      | exact whole_Cmp.mono _ _ _ _ _
      | exact whole_Neg.mono _ _ _
      | exact whole_Of.mono _ _
      | exact whole_Parse.mono _ _
      | exact whole_Text.mono _ _ _
      | exact LeO.none _
      | refine LeO.ite ?_ ?_
      | refine LeO.bind ?_ (fun _ => ?_)
theorem steelyardlaw06_WholeTexts.mono : ∀ a0 a1 a2 a3 k, LeO (steelyardlaw06_WholeTexts.f k a0 a1 a2 a3) (steelyardlaw06_WholeTexts.f (k + 1) a0 a1 a2 a3) := by
  intro a0 a1 a2 a3 k
  obtain ⟨ih0, ih1⟩ := steelyardlaw06_WholeTexts.mono_l k
  unfold steelyardlaw06_WholeTexts.f
  repeat' first
      | (with_reducible exact ih0 _ _ _ _ _)
      | (with_reducible exact ih1 _ _ _ _)
      | (with_reducible exact steelyardkeep_Int.mono _ _ _ _ _)
      | (with_reducible exact steelyardlaw06_wakes.mono _)
      | (with_reducible exact whole_Cmp.mono _ _ _ _ _)
      | (with_reducible exact whole_Neg.mono _ _ _)
      | (with_reducible exact whole_Of.mono _ _)
      | (with_reducible exact whole_Parse.mono _ _)
      | (with_reducible exact whole_Text.mono _ _ _)
      | (with_reducible exact LeO.refl _)
      | (with_reducible exact LeO.none _)
      | (with_reducible refine LeO.ite ?_ ?_)
      | (with_reducible refine LeO.bind ?_ (fun _ => ?_))
      | exact ih0 _ _ _ _ _
      | exact ih1 _ _ _ _
      | exact steelyardkeep_Int.mono _ _ _ _ _
      | exact steelyardlaw06_wakes.mono _
      | exact whole_Cmp.mono _ _ _ _ _
      | exact whole_Neg.mono _ _ _
      | exact whole_Of.mono _ _
      | exact whole_Parse.mono _ _
      | exact whole_Text.mono _ _ _
      | exact LeO.none _
      | refine LeO.ite ?_ ?_
      | refine LeO.bind ?_ (fun _ => ?_)
end Go.Proofs.YtnilfndadahgaaaDoor.P
