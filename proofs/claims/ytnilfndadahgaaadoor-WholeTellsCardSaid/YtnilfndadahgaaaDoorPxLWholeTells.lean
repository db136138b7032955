/- Plain functions: what the Go functions of a package come to. -/
import Derived.Test.YtnilfndadahgaaaDoorYWords
import Derived.Test.YtnilfndadahgaaaDoorMx
set_option linter.unusedVariables false
set_option linter.unusedSimpArgs false
namespace Go.Proofs.YtnilfndadahgaaaDoor.P
open Go.RowKit Go.Proofs.YtnilfndadahgaaaDoorW.PrintWords Go.Proofs.YtnilfndadahgaaaDoorW.PrintLast Go.Proofs.YtnilfndadahgaaaDoorW.PrintMore
def steelyardlaw06_WholeTells.j0 : Nat → Bool → Bool → List Int → Bool → List Int → Int → ByteArray → Option (Bool)
  | 0, _, _, _, _, _, _, _ => none
  | k + 1, x23, x661000, x661001, x662000, x662001, x663000, x663001 => if x23 = true then ((steelyardlaw06_wakes.f k).bind fun t665 => (some t665)) else ((steelyardkeep_OwnInt.f x661000 x661001).bind fun bt666 => ((steelyardkeep_OwnInt.f x662000 x662001).bind fun bt670 => ((whole_Parse.f k x663001).bind fun bt676 => ((steelyardref06_Parse.f k x663001).bind fun bt682 => ((whole_Add.f k bt666.1 bt666.2 bt670.1 bt670.2).bind fun bt688 => ((steelyardref06_Add.f k x661000 x661001 x662000 x662001).bind fun bt692 => ((steelyardkeep_Int.f k bt688.1 bt688.2 bt692.1 bt692.2).bind fun t696 => (if t696 = true then ((whole_Mul.f k bt666.1 bt666.2 bt670.1 bt670.2).bind fun bt697 => ((steelyardref06_Mul.f k x661000 x661001 x662000 x662001).bind fun bt701 => ((steelyardkeep_Int.f k bt697.1 bt697.2 bt701.1 bt701.2).bind fun t705 => (if t705 = true then ((whole_Neg.f k bt666.1 bt666.2).bind fun bt706 => ((steelyardref06_Neg.f k x661000 x661001).bind fun bt710 => ((steelyardkeep_Int.f k bt706.1 bt706.2 bt710.1 bt710.2).bind fun t714 => (if t714 = true then ((whole_Cmp.f k bt666.1 bt666.2 bt670.1 bt670.2).bind fun t715 => ((steelyardref06_Cmp.f k x661000 x661001 x662000 x662001).bind fun t716 => (if t715 = t716 then ((whole_Text.f k bt666.1 bt666.2).bind fun t717 => ((steelyardref06_Text.f k x661000 x661001).bind fun t718 => (if t717.toList = t718.toList then ((whole_Trim.f k bt666.1 bt666.2).bind fun bt719 => ((steelyardref06_Trim.f k x661000 x661001).bind fun bt723 => ((steelyardkeep_Int.f k bt719.1 bt719.2 bt723.1 bt723.2).bind fun t727 => (if t727 = true then ((steelyardkeep_Int.f k bt676.1 bt676.2.1 bt682.1 bt682.2.1).bind fun t728 => (if t728 = true then (if (bt676.2.2 == bt682.2.2) = true then ((whole_Of.f k x663000).bind fun bt729 => ((steelyardref06_Of.f k x663000).bind fun bt733 => ((steelyardkeep_Int.f k bt729.1 bt729.2 bt733.1 bt733.2).bind fun t737 => (if t737 = true then ((steelyardkeep_Int.f k bt666.1 bt666.2 x661000 x661001).bind fun t738 => (if t738 = true then ((steelyardkeep_Int.f k bt670.1 bt670.2 x662000 x662001).bind fun t739 => (if t739 = true then ((steelyardlaw06_wakes.f k).bind fun t740 => (some t740)) else (none))) else (none))) else (none))))) else (none)) else (none))) else (none))))) else (none)))) else (none)))) else (none))))) else (none))))) else (none)))))))))
def steelyardlaw06_WholeTells.f (k : Nat) (a0_0 : Bool) (l0_1 : List Int) (a1_0 : Bool) (l1_1 : List Int) (a2_0 : Int) (a2_1 : ByteArray) : Option (Bool) := (steelyardlaw06_Long.f a0_0 l0_1).bind fun t663 => (if t663 = true then (steelyardlaw06_WholeTells.j0 k true a0_0 l0_1 a1_0 l1_1 a2_0 a2_1) else ((steelyardlaw06_Long.f a1_0 l1_1).bind fun t664 => (if t664 = true then (steelyardlaw06_WholeTells.j0 k true a0_0 l0_1 a1_0 l1_1 a2_0 a2_1) else (steelyardlaw06_WholeTells.j0 k (decide ((a2_1.size : Int) > 500)) a0_0 l0_1 a1_0 l1_1 a2_0 a2_1))))
theorem steelyardlaw06_WholeTells.mono_l : ∀ k, (∀ y0 y1 y2 y3 y4 y5 y6, LeO (steelyardlaw06_WholeTells.j0 k y0 y1 y2 y3 y4 y5 y6) (steelyardlaw06_WholeTells.j0 (k + 1) y0 y1 y2 y3 y4 y5 y6))
  | 0 => fun _ _ _ _ _ _ _ r h => by simp [steelyardlaw06_WholeTells.j0] at h
  | k + 1 => by
    have ih0 := steelyardlaw06_WholeTells.mono_l k
    · intro y0 y1 y2 y3 y4 y5 y6
      unfold steelyardlaw06_WholeTells.j0
      repeat' first
      | (with_reducible exact ih0 _ _ _ _ _ _ _)
      | (with_reducible exact steelyardkeep_Int.mono _ _ _ _ _)
      | (with_reducible exact steelyardlaw06_wakes.mono _)
      | (with_reducible exact steelyardref06_Add.mono _ _ _ _ _)
      | (with_reducible exact steelyardref06_Cmp.mono _ _ _ _ _)
      | (with_reducible exact steelyardref06_Mul.mono _ _ _ _ _)
      | (with_reducible exact steelyardref06_Neg.mono _ _ _)
      | (with_reducible exact steelyardref06_Of.mono _ _)
      | (with_reducible exact steelyardref06_Parse.mono _ _)
      | (with_reducible exact steelyardref06_Text.mono _ _ _)
      | (with_reducible exact steelyardref06_Trim.mono _ _ _)
      | (with_reducible exact whole_Add.mono _ _ _ _ _)
      | (with_reducible exact whole_Cmp.mono _ _ _ _ _)
      | (with_reducible exact whole_Mul.mono _ _ _ _ _)
      | (with_reducible exact whole_Neg.mono _ _ _)
      | (with_reducible exact whole_Of.mono _ _)
      | (with_reducible exact whole_Parse.mono _ _)
      | (with_reducible exact whole_Text.mono _ _ _)
      | (with_reducible exact whole_Trim.mono _ _ _)
      | (with_reducible exact LeO.refl _)
      | (with_reducible exact LeO.none _)
      | (with_reducible refine LeO.ite ?_ ?_)
      | (with_reducible refine LeO.bind ?_ (fun _ => ?_))
      | exact ih0 _ _ _ _ _ _ _
      | exact steelyardkeep_Int.mono _ _ _ _ _
      | exact steelyardlaw06_wakes.mono _
      | exact steelyardref06_Add.mono _ _ _ _ _
      | exact steelyardref06_Cmp.mono _ _ _ _ _
      | exact steelyardref06_Mul.mono _ _ _ _ _
      | exact steelyardref06_Neg.mono _ _ _
      | exact steelyardref06_Of.mono _ _
      | exact steelyardref06_Parse.mono _ _
      | exact steelyardref06_Text.mono _ _ _
      | exact steelyardref06_Trim.mono _ _ _
      | exact whole_Add.mono _ _ _ _ _
      | exact whole_Cmp.mono _ _ _ _ _
      | exact whole_Mul.mono _ _ _ _ _
      | exact whole_Neg.mono _ _ _
      | exact whole_Of.mono _ _
      | exact whole_Parse.mono _ _
      | exact whole_Text.mono _ _ _
      | exact whole_Trim.mono _ _ _
      | exact LeO.none _
      | refine LeO.ite ?_ ?_
      | refine LeO.bind ?_ (fun _ => ?_)
theorem steelyardlaw06_WholeTells.mono : ∀ a0 a1 a2 a3 a4 a5 k, LeO (steelyardlaw06_WholeTells.f k a0 a1 a2 a3 a4 a5) (steelyardlaw06_WholeTells.f (k + 1) a0 a1 a2 a3 a4 a5) := by
  intro a0 a1 a2 a3 a4 a5 k
  have ih0 := steelyardlaw06_WholeTells.mono_l k
  unfold steelyardlaw06_WholeTells.f
  repeat' first
      | (with_reducible exact ih0 _ _ _ _ _ _ _)
      | (with_reducible exact steelyardkeep_Int.mono _ _ _ _ _)
      | (with_reducible exact steelyardlaw06_wakes.mono _)
      | (with_reducible exact steelyardref06_Add.mono _ _ _ _ _)
      | (with_reducible exact steelyardref06_Cmp.mono _ _ _ _ _)
      | (with_reducible exact steelyardref06_Mul.mono _ _ _ _ _)
      | (with_reducible exact steelyardref06_Neg.mono _ _ _)
      | (with_reducible exact steelyardref06_Of.mono _ _)
      | (with_reducible exact steelyardref06_Parse.mono _ _)
      | (with_reducible exact steelyardref06_Text.mono _ _ _)
      | (with_reducible exact steelyardref06_Trim.mono _ _ _)
      | (with_reducible exact whole_Add.mono _ _ _ _ _)
      | (with_reducible exact whole_Cmp.mono _ _ _ _ _)
      | (with_reducible exact whole_Mul.mono _ _ _ _ _)
      | (with_reducible exact whole_Neg.mono _ _ _)
      | (with_reducible exact whole_Of.mono _ _)
      | (with_reducible exact whole_Parse.mono _ _)
      | (with_reducible exact whole_Text.mono _ _ _)
      | (with_reducible exact whole_Trim.mono _ _ _)
      | (with_reducible exact LeO.refl _)
      | (with_reducible exact LeO.none _)
      | (with_reducible refine LeO.ite ?_ ?_)
      | (with_reducible refine LeO.bind ?_ (fun _ => ?_))
      | exact ih0 _ _ _ _ _ _ _
      | exact steelyardkeep_Int.mono _ _ _ _ _
      | exact steelyardlaw06_wakes.mono _
      | exact steelyardref06_Add.mono _ _ _ _ _
      | exact steelyardref06_Cmp.mono _ _ _ _ _
      | exact steelyardref06_Mul.mono _ _ _ _ _
      | exact steelyardref06_Neg.mono _ _ _
      | exact steelyardref06_Of.mono _ _
      | exact steelyardref06_Parse.mono _ _
      | exact steelyardref06_Text.mono _ _ _
      | exact steelyardref06_Trim.mono _ _ _
      | exact whole_Add.mono _ _ _ _ _
      | exact whole_Cmp.mono _ _ _ _ _
      | exact whole_Mul.mono _ _ _ _ _
      | exact whole_Neg.mono _ _ _
      | exact whole_Of.mono _ _
      | exact whole_Parse.mono _ _
      | exact whole_Text.mono _ _ _
      | exact whole_Trim.mono _ _ _
      | exact LeO.none _
      | refine LeO.ite ?_ ?_
      | refine LeO.bind ?_ (fun _ => ?_)
end Go.Proofs.YtnilfndadahgaaaDoor.P
