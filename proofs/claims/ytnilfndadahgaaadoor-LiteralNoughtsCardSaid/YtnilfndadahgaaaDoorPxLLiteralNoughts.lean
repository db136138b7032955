/- Plain functions: what the Go functions of a package come to. -/
import Derived.Test.YtnilfndadahgaaaDoorYWords
import Derived.Test.YtnilfndadahgaaaDoorMx
set_option linter.unusedVariables false
set_option linter.unusedSimpArgs false
namespace Go.Proofs.YtnilfndadahgaaaDoor.P
open Go.RowKit Go.Proofs.YtnilfndadahgaaaDoorW.PrintWords Go.Proofs.YtnilfndadahgaaaDoorW.PrintLast Go.Proofs.YtnilfndadahgaaaDoorW.PrintMore
mutual
def steelyardlaw09_LiteralNoughts.l0 : Nat → ByteArray → ByteArray → ByteArray → Int → Int → Int → Int → Option (Bool)
  | 0, _, _, _, _, _, _, _ => none
  | k + 1, x7, x8, x9, x10, x1681000, x1681001, x1681002 => if x10 < (Int.tmod (wrap64 (x1681000)) 9) then (if x9.size + 1 ≤ 9223372036854775807 then (steelyardlaw09_LiteralNoughts.l0 k x7 x8 (x9 ++ (⟨#[48]⟩ : ByteArray)) (wrap64 (x10 + 1)) x1681000 x1681001 x1681002) else (none)) else (if x7.size + 1 ≤ 9223372036854775807 then (if (x7 ++ (⟨#[46]⟩ : ByteArray)).size + x8.size ≤ 9223372036854775807 then ((literal_Parse.f k ((x7 ++ (⟨#[46]⟩ : ByteArray)) ++ x8)).bind fun bt1683 => (if x9.size + x7.size ≤ 9223372036854775807 then (if (x9 ++ x7).size + 1 ≤ 9223372036854775807 then (if ((x9 ++ x7) ++ (⟨#[46]⟩ : ByteArray)).size + x8.size ≤ 9223372036854775807 then (if (((x9 ++ x7) ++ (⟨#[46]⟩ : ByteArray)) ++ x8).size + x9.size ≤ 9223372036854775807 then ((literal_Parse.f k ((((x9 ++ x7) ++ (⟨#[46]⟩ : ByteArray)) ++ x8) ++ x9)).bind fun bt1692 => (if x7.size + x8.size ≤ 9223372036854775807 then ((literal_Parse.f k (x7 ++ x8)).bind fun bt1701 => (if ((x7 ++ (⟨#[46]⟩ : ByteArray)) ++ x8).size + 1 ≤ 9223372036854775807 then ((steelyardlaw09_dec.f k (Int.tmod (wrap64 (x1681001)) 30)).bind fun t1710 => (if (((x7 ++ (⟨#[46]⟩ : ByteArray)) ++ x8) ++ (⟨#[101]⟩ : ByteArray)).size + t1710.size ≤ 9223372036854775807 then ((literal_Parse.f k ((((x7 ++ (⟨#[46]⟩ : ByteArray)) ++ x8) ++ (⟨#[101]⟩ : ByteArray)) ++ t1710)).bind fun bt1711 => (if ((x7 ++ (⟨#[46]⟩ : ByteArray)) ++ x8).size + 2 ≤ 9223372036854775807 then ((steelyardlaw09_dec.f k (Int.tmod (wrap64 (x1681001)) 30)).bind fun t1720 => (if (((x7 ++ (⟨#[46]⟩ : ByteArray)) ++ x8) ++ (⟨#[101, 45]⟩ : ByteArray)).size + t1720.size ≤ 9223372036854775807 then ((literal_Parse.f k ((((x7 ++ (⟨#[46]⟩ : ByteArray)) ++ x8) ++ (⟨#[101, 45]⟩ : ByteArray)) ++ t1720)).bind fun bt1721 => (if bt1683.2.2.2 = 0 then (if bt1692.2.2.2 = 0 then (if bt1701.2.2.2 = 0 then (if bt1711.2.2.2 = 0 then (if bt1721.2.2.2 = 0 then ((steelyardkeep_Rat.f k bt1683.1 bt1683.2.1 bt1683.2.2.1 bt1692.1 bt1692.2.1 bt1692.2.2.1).bind fun t1730 => (steelyardlaw09_LiteralNoughts.j1 k x8 (Int.tmod (wrap64 (x1681001)) 30) (!t1730) bt1683.1 bt1683.2.1 bt1683.2.2.1 bt1701.1 bt1701.2.1 bt1701.2.2.1 bt1711.1 bt1711.2.1 bt1711.2.2.1 bt1721.1 bt1721.2.1 bt1721.2.2.1)) else (steelyardlaw09_LiteralNoughts.j1 k x8 (Int.tmod (wrap64 (x1681001)) 30) true bt1683.1 bt1683.2.1 bt1683.2.2.1 bt1701.1 bt1701.2.1 bt1701.2.2.1 bt1711.1 bt1711.2.1 bt1711.2.2.1 bt1721.1 bt1721.2.1 bt1721.2.2.1)) else (steelyardlaw09_LiteralNoughts.j1 k x8 (Int.tmod (wrap64 (x1681001)) 30) true bt1683.1 bt1683.2.1 bt1683.2.2.1 bt1701.1 bt1701.2.1 bt1701.2.2.1 bt1711.1 bt1711.2.1 bt1711.2.2.1 bt1721.1 bt1721.2.1 bt1721.2.2.1)) else (steelyardlaw09_LiteralNoughts.j1 k x8 (Int.tmod (wrap64 (x1681001)) 30) true bt1683.1 bt1683.2.1 bt1683.2.2.1 bt1701.1 bt1701.2.1 bt1701.2.2.1 bt1711.1 bt1711.2.1 bt1711.2.2.1 bt1721.1 bt1721.2.1 bt1721.2.2.1)) else (steelyardlaw09_LiteralNoughts.j1 k x8 (Int.tmod (wrap64 (x1681001)) 30) true bt1683.1 bt1683.2.1 bt1683.2.2.1 bt1701.1 bt1701.2.1 bt1701.2.2.1 bt1711.1 bt1711.2.1 bt1711.2.2.1 bt1721.1 bt1721.2.1 bt1721.2.2.1)) else (steelyardlaw09_LiteralNoughts.j1 k x8 (Int.tmod (wrap64 (x1681001)) 30) true bt1683.1 bt1683.2.1 bt1683.2.2.1 bt1701.1 bt1701.2.1 bt1701.2.2.1 bt1711.1 bt1711.2.1 bt1711.2.2.1 bt1721.1 bt1721.2.1 bt1721.2.2.1))) else (none))) else (none))) else (none))) else (none))) else (none))) else (none)) else (none)) else (none)) else (none))) else (none)) else (none))
def steelyardlaw09_LiteralNoughts.j1 : Nat → ByteArray → Int → Bool → Bool → List Int → List Int → Bool → List Int → List Int → Bool → List Int → List Int → Bool → List Int → List Int → Option (Bool)
  | 0, _, _, _, _, _, _, _, _, _, _, _, _, _, _, _ => none
  | k + 1, x8, x11, x126, x1692000, x1692001, x1692002, x1710000, x1710001, x1710002, x1720000, x1720001, x1720002, x1730000, x1730001, x1730002 => if x126 = true then (none) else ((rat_Whole.f k 1).bind fun bt1731 => (steelyardlaw09_LiteralNoughts.l1 k x8 x11 0 x1692000 x1692001 x1692002 x1710000 x1710001 x1710002 x1720000 x1720001 x1720002 x1730000 x1730001 x1730002 bt1731.1 bt1731.2.1 bt1731.2.2))
def steelyardlaw09_LiteralNoughts.l1 : Nat → ByteArray → Int → Int → Bool → List Int → List Int → Bool → List Int → List Int → Bool → List Int → List Int → Bool → List Int → List Int → Bool → List Int → List Int → Option (Bool)
  | 0, _, _, _, _, _, _, _, _, _, _, _, _, _, _, _, _, _, _ => none
  | k + 1, x8, x11, x23, x1692000, x1692001, x1692002, x1710000, x1710001, x1710002, x1720000, x1720001, x1720002, x1730000, x1730001, x1730002, x1739000, x1739001, x1739002 => if x23 < (x8.size : Int) then ((rat_Whole.f k 10).bind fun bt1739 => ((rat_Mul.f k x1739000 x1739001 x1739002 bt1739.1 bt1739.2.1 bt1739.2.2).bind fun bt1746 => (if bt1746.2.2.2 = 0 then (steelyardlaw09_LiteralNoughts.l1 k x8 x11 (wrap64 (x23 + 1)) x1692000 x1692001 x1692002 x1710000 x1710001 x1710002 x1720000 x1720001 x1720002 x1730000 x1730001 x1730002 bt1746.1 bt1746.2.1 bt1746.2.2.1) else (none)))) else ((rat_Mul.f k x1692000 x1692001 x1692002 x1739000 x1739001 x1739002).bind fun bt1754 => ((rat_Whole.f k 1).bind fun bt1763 => (steelyardlaw09_LiteralNoughts.l2 k x11 bt1754.2.2.2 0 x1692000 x1692001 x1692002 x1710000 x1710001 x1710002 x1720000 x1720001 x1720002 x1730000 x1730001 x1730002 bt1754.1 bt1754.2.1 bt1754.2.2.1 bt1763.1 bt1763.2.1 bt1763.2.2)))
def steelyardlaw09_LiteralNoughts.l2 : Nat → Int → Int → Int → Bool → List Int → List Int → Bool → List Int → List Int → Bool → List Int → List Int → Bool → List Int → List Int → Bool → List Int → List Int → Bool → List Int → List Int → Option (Bool)
  | 0, _, _, _, _, _, _, _, _, _, _, _, _, _, _, _, _, _, _, _, _, _ => none
  | k + 1, x11, x25, x27, x1692000, x1692001, x1692002, x1710000, x1710001, x1710002, x1720000, x1720001, x1720002, x1730000, x1730001, x1730002, x1763000, x1763001, x1763002, x1771000, x1771001, x1771002 => if x27 < x11 then ((rat_Whole.f k 10).bind fun bt1771 => ((rat_Mul.f k x1771000 x1771001 x1771002 bt1771.1 bt1771.2.1 bt1771.2.2).bind fun bt1778 => (if bt1778.2.2.2 = 0 then (steelyardlaw09_LiteralNoughts.l2 k x11 x25 (wrap64 (x27 + 1)) x1692000 x1692001 x1692002 x1710000 x1710001 x1710002 x1720000 x1720001 x1720002 x1730000 x1730001 x1730002 x1763000 x1763001 x1763002 bt1778.1 bt1778.2.1 bt1778.2.2.1) else (none)))) else ((rat_Mul.f k x1692000 x1692001 x1692002 x1771000 x1771001 x1771002).bind fun bt1786 => ((rat_Div.f k x1692000 x1692001 x1692002 x1771000 x1771001 x1771002).bind fun bt1795 => (if x25 = 0 then (if bt1786.2.2.2 = 0 then (if bt1795.2.2.2 = 0 then ((steelyardkeep_Rat.f k x1763000 x1763001 x1763002 x1710000 x1710001 x1710002).bind fun t1804 => (if t1804 = true then ((steelyardkeep_Rat.f k x1720000 x1720001 x1720002 bt1786.1 bt1786.2.1 bt1786.2.2.1).bind fun t1805 => (if t1805 = true then ((steelyardkeep_Rat.f k x1730000 x1730001 x1730002 bt1795.1 bt1795.2.1 bt1795.2.2.1).bind fun t1806 => (if t1806 = true then ((steelyardlaw09_wakes.f k).bind fun t1807 => (some t1807)) else (none))) else (none))) else (none))) else (none)) else (none)) else (none))))
end
def steelyardlaw09_LiteralNoughts.f (k : Nat) (a0 : Int) (a1 : Int) (a2_0 : Int) (a2_1 : Int) (a2_2 : Int) : Option (Bool) := (steelyardlaw09_dec.f k (wrap64 (a0))).bind fun t1681 => ((steelyardlaw09_dec.f k (wrap64 (a1))).bind fun t1682 => (steelyardlaw09_LiteralNoughts.l0 k t1681 t1682 (⟨#[]⟩ : ByteArray) 0 a2_0 a2_1 a2_2))
theorem steelyardlaw09_LiteralNoughts.mono_l : ∀ k, (∀ y0 y1 y2 y3 y4 y5 y6, LeO (steelyardlaw09_LiteralNoughts.l0 k y0 y1 y2 y3 y4 y5 y6) (steelyardlaw09_LiteralNoughts.l0 (k + 1) y0 y1 y2 y3 y4 y5 y6)) ∧ (∀ y0 y1 y2 y3 y4 y5 y6 y7 y8 y9 y10 y11 y12 y13 y14, LeO (steelyardlaw09_LiteralNoughts.j1 k y0 y1 y2 y3 y4 y5 y6 y7 y8 y9 y10 y11 y12 y13 y14) (steelyardlaw09_LiteralNoughts.j1 (k + 1) y0 y1 y2 y3 y4 y5 y6 y7 y8 y9 y10 y11 y12 y13 y14)) ∧ (∀ y0 y1 y2 y3 y4 y5 y6 y7 y8 y9 y10 y11 y12 y13 y14 y15 y16 y17, LeO (steelyardlaw09_LiteralNoughts.l1 k y0 y1 y2 y3 y4 y5 y6 y7 y8 y9 y10 y11 y12 y13 y14 y15 y16 y17) (steelyardlaw09_LiteralNoughts.l1 (k + 1) y0 y1 y2 y3 y4 y5 y6 y7 y8 y9 y10 y11 y12 y13 y14 y15 y16 y17)) ∧ (∀ y0 y1 y2 y3 y4 y5 y6 y7 y8 y9 y10 y11 y12 y13 y14 y15 y16 y17 y18 y19 y20, LeO (steelyardlaw09_LiteralNoughts.l2 k y0 y1 y2 y3 y4 y5 y6 y7 y8 y9 y10 y11 y12 y13 y14 y15 y16 y17 y18 y19 y20) (steelyardlaw09_LiteralNoughts.l2 (k + 1) y0 y1 y2 y3 y4 y5 y6 y7 y8 y9 y10 y11 y12 y13 y14 y15 y16 y17 y18 y19 y20))
  | 0 => ⟨fun _ _ _ _ _ _ _ r h => by simp [steelyardlaw09_LiteralNoughts.l0] at h, fun _ _ _ _ _ _ _ _ _ _ _ _ _ _ _ r h => by simp [steelyardlaw09_LiteralNoughts.j1] at h, fun _ _ _ _ _ _ _ _ _ _ _ _ _ _ _ _ _ _ r h => by simp [steelyardlaw09_LiteralNoughts.l1] at h, fun _ _ _ _ _ _ _ _ _ _ _ _ _ _ _ _ _ _ _ _ _ r h => by simp [steelyardlaw09_LiteralNoughts.l2] at h⟩
  | k + 1 => by
    obtain ⟨ih0, ih1, ih2, ih3⟩ := steelyardlaw09_LiteralNoughts.mono_l k
    refine ⟨?_, ?_, ?_, ?_⟩
    · intro y0 y1 y2 y3 y4 y5 y6
      unfold steelyardlaw09_LiteralNoughts.l0
      repeat' first
      | (with_reducible exact ih0 _ _ _ _ _ _ _)
      | (with_reducible exact ih1 _ _ _ _ _ _ _ _ _ _ _ _ _ _ _)
      | (with_reducible exact ih2 _ _ _ _ _ _ _ _ _ _ _ _ _ _ _ _ _ _)
      | (with_reducible exact ih3 _ _ _ _ _ _ _ _ _ _ _ _ _ _ _ _ _ _ _ _ _)
      | (with_reducible exact literal_Parse.mono _ _)
      | (with_reducible exact rat_Div.mono _ _ _ _ _ _ _)
      | (with_reducible exact rat_Mul.mono _ _ _ _ _ _ _)
      | (with_reducible exact rat_Whole.mono _ _)
      | (with_reducible exact steelyardkeep_Rat.mono _ _ _ _ _ _ _)
      | (with_reducible exact steelyardlaw09_dec.mono _ _)
      | (with_reducible exact steelyardlaw09_wakes.mono _)
      | (with_reducible exact LeO.refl _)
      | (with_reducible exact LeO.none _)
      | (with_reducible refine LeO.ite ?_ ?_)
      | (with_reducible refine LeO.bind ?_ (fun _ => ?_))
      | exact ih0 _ _ _ _ _ _ _
      | exact ih1 _ _ _ _ _ _ _ _ _ _ _ _ _ _ _
      | exact ih2 _ _ _ _ _ _ _ _ _ _ _ _ _ _ _ _ _ _
      | exact ih3 _ _ _ _ _ _ _ _ _ _ _ _ _ _ _ _ _ _ _ _ _
      | exact literal_Parse.mono _ _
      | exact rat_Div.mono _ _ _ _ _ _ _
      | exact rat_Mul.mono _ _ _ _ _ _ _
      | exact rat_Whole.mono _ _
      | exact steelyardkeep_Rat.mono _ _ _ _ _ _ _
      | exact steelyardlaw09_dec.mono _ _
      | exact steelyardlaw09_wakes.mono _
      | exact LeO.none _
      | refine LeO.ite ?_ ?_
      | refine LeO.bind ?_ (fun _ => ?_)
    · intro y0 y1 y2 y3 y4 y5 y6 y7 y8 y9 y10 y11 y12 y13 y14
      unfold steelyardlaw09_LiteralNoughts.j1
      repeat' first
      | (with_reducible exact ih0 _ _ _ _ _ _ _)
      | (with_reducible exact ih1 _ _ _ _ _ _ _ _ _ _ _ _ _ _ _)
      | (with_reducible exact ih2 _ _ _ _ _ _ _ _ _ _ _ _ _ _ _ _ _ _)
      | (with_reducible exact ih3 _ _ _ _ _ _ _ _ _ _ _ _ _ _ _ _ _ _ _ _ _)
      | (with_reducible exact literal_Parse.mono _ _)
      | (with_reducible exact rat_Div.mono _ _ _ _ _ _ _)
      | (with_reducible exact rat_Mul.mono _ _ _ _ _ _ _)
      | (with_reducible exact rat_Whole.mono _ _)
      | (with_reducible exact steelyardkeep_Rat.mono _ _ _ _ _ _ _)
      | (with_reducible exact steelyardlaw09_dec.mono _ _)
      | (with_reducible exact steelyardlaw09_wakes.mono _)
      | (with_reducible exact LeO.refl _)
      | (with_reducible exact LeO.none _)
      | (with_reducible refine LeO.ite ?_ ?_)
      | (with_reducible refine LeO.bind ?_ (fun _ => ?_))
      | exact ih0 _ _ _ _ _ _ _
      | exact ih1 _ _ _ _ _ _ _ _ _ _ _ _ _ _ _
      | exact ih2 _ _ _ _ _ _ _ _ _ _ _ _ _ _ _ _ _ _
      | exact ih3 _ _ _ _ _ _ _ _ _ _ _ _ _ _ _ _ _ _ _ _ _
      | exact literal_Parse.mono _ _
      | exact rat_Div.mono _ _ _ _ _ _ _
      | exact rat_Mul.mono _ _ _ _ _ _ _
      | exact rat_Whole.mono _ _
      | exact steelyardkeep_Rat.mono _ _ _ _ _ _ _
      | exact steelyardlaw09_dec.mono _ _
      | exact steelyardlaw09_wakes.mono _
      | exact LeO.none _
      | refine LeO.ite ?_ ?_
      | refine LeO.bind ?_ (fun _ => ?_)
    · intro y0 y1 y2 y3 y4 y5 y6 y7 y8 y9 y10 y11 y12 y13 y14 y15 y16 y17
      unfold steelyardlaw09_LiteralNoughts.l1
      repeat' first
      | (with_reducible exact ih0 _ _ _ _ _ _ _)
      | (with_reducible exact ih1 _ _ _ _ _ _ _ _ _ _ _ _ _ _ _)
      | (with_reducible exact ih2 _ _ _ _ _ _ _ _ _ _ _ _ _ _ _ _ _ _)
      | (with_reducible exact ih3 _ _ _ _ _ _ _ _ _ _ _ _ _ _ _ _ _ _ _ _ _)
      | (with_reducible exact literal_Parse.mono _ _)
      | (with_reducible exact rat_Div.mono _ _ _ _ _ _ _)
      | (with_reducible exact rat_Mul.mono _ _ _ _ _ _ _)
      | (with_reducible exact rat_Whole.mono _ _)
      | (with_reducible exact steelyardkeep_Rat.mono _ _ _ _ _ _ _)
      | (with_reducible exact steelyardlaw09_dec.mono _ _)
      | (with_reducible exact steelyardlaw09_wakes.mono _)
      | (with_reducible exact LeO.refl _)
      | (with_reducible exact LeO.none _)
      | (with_reducible refine LeO.ite ?_ ?_)
      | (with_reducible refine LeO.bind ?_ (fun _ => ?_))
      | exact ih0 _ _ _ _ _ _ _
      | exact ih1 _ _ _ _ _ _ _ _ _ _ _ _ _ _ _
      | exact ih2 _ _ _ _ _ _ _ _ _ _ _ _ _ _ _ _ _ _
      | exact ih3 _ _ _ _ _ _ _ _ _ _ _ _ _ _ _ _ _ _ _ _ _
      | exact literal_Parse.mono _ _
      | exact rat_Div.mono _ _ _ _ _ _ _
      | exact rat_Mul.mono _ _ _ _ _ _ _
      | exact rat_Whole.mono _ _
      | exact steelyardkeep_Rat.mono _ _ _ _ _ _ _
      | exact steelyardlaw09_dec.mono _ _
      | exact steelyardlaw09_wakes.mono _
      | exact LeO.none _
      | refine LeO.ite ?_ ?_
      | refine LeO.bind ?_ (fun _ => ?_)
    · intro y0 y1 y2 y3 y4 y5 y6 y7 y8 y9 y10 y11 y12 y13 y14 y15 y16 y17 y18 y19 y20
      unfold steelyardlaw09_LiteralNoughts.l2
      repeat' first
      | (with_reducible exact ih0 _ _ _ _ _ _ _)
      | (with_reducible exact ih1 _ _ _ _ _ _ _ _ _ _ _ _ _ _ _)
      | (with_reducible exact ih2 _ _ _ _ _ _ _ _ _ _ _ _ _ _ _ _ _ _)
      | (with_reducible exact ih3 _ _ _ _ _ _ _ _ _ _ _ _ _ _ _ _ _ _ _ _ _)
      | (with_reducible exact literal_Parse.mono _ _)
      | (with_reducible exact rat_Div.mono _ _ _ _ _ _ _)
      | (with_reducible exact rat_Mul.mono _ _ _ _ _ _ _)
      | (with_reducible exact rat_Whole.mono _ _)
      | (with_reducible exact steelyardkeep_Rat.mono _ _ _ _ _ _ _)
      | (with_reducible exact steelyardlaw09_dec.mono _ _)
      | (with_reducible exact steelyardlaw09_wakes.mono _)
      | (with_reducible exact LeO.refl _)
      | (with_reducible exact LeO.none _)
      | (with_reducible refine LeO.ite ?_ ?_)
      | (with_reducible refine LeO.bind ?_ (fun _ => ?_))
      | exact ih0 _ _ _ _ _ _ _
      | exact ih1 _ _ _ _ _ _ _ _ _ _ _ _ _ _ _
      | exact ih2 _ _ _ _ _ _ _ _ _ _ _ _ _ _ _ _ _ _
      | exact ih3 _ _ _ _ _ _ _ _ _ _ _ _ _ _ _ _ _ _ _ _ _
      | exact literal_Parse.mono _ _
      | exact rat_Div.mono _ _ _ _ _ _ _
      | exact rat_Mul.mono _ _ _ _ _ _ _
      | exact rat_Whole.mono _ _
      | exact steelyardkeep_Rat.mono _ _ _ _ _ _ _
      | exact steelyardlaw09_dec.mono _ _
      | exact steelyardlaw09_wakes.mono _
      | exact LeO.none _
      | refine LeO.ite ?_ ?_
      | refine LeO.bind ?_ (fun _ => ?_)
theorem steelyardlaw09_LiteralNoughts.mono : ∀ a0 a1 a2 a3 a4 k, LeO (steelyardlaw09_LiteralNoughts.f k a0 a1 a2 a3 a4) (steelyardlaw09_LiteralNoughts.f (k + 1) a0 a1 a2 a3 a4) := by
  intro a0 a1 a2 a3 a4 k
  obtain ⟨ih0, ih1, ih2, ih3⟩ := steelyardlaw09_LiteralNoughts.mono_l k
  unfold steelyardlaw09_LiteralNoughts.f
  repeat' first
      | (with_reducible exact ih0 _ _ _ _ _ _ _)
      | (with_reducible exact ih1 _ _ _ _ _ _ _ _ _ _ _ _ _ _ _)
      | (with_reducible exact ih2 _ _ _ _ _ _ _ _ _ _ _ _ _ _ _ _ _ _)
      | (with_reducible exact ih3 _ _ _ _ _ _ _ _ _ _ _ _ _ _ _ _ _ _ _ _ _)
      | (with_reducible exact literal_Parse.mono _ _)
      | (with_reducible exact rat_Div.mono _ _ _ _ _ _ _)
      | (with_reducible exact rat_Mul.mono _ _ _ _ _ _ _)
      | (with_reducible exact rat_Whole.mono _ _)
      | (with_reducible exact steelyardkeep_Rat.mono _ _ _ _ _ _ _)
      | (with_reducible exact steelyardlaw09_dec.mono _ _)
      | (with_reducible exact steelyardlaw09_wakes.mono _)
      | (with_reducible exact LeO.refl _)
      | (with_reducible exact LeO.none _)
      | (with_reducible refine LeO.ite ?_ ?_)
      | (with_reducible refine LeO.bind ?_ (fun _ => ?_))
      | exact ih0 _ _ _ _ _ _ _
      | exact ih1 _ _ _ _ _ _ _ _ _ _ _ _ _ _ _
      | exact ih2 _ _ _ _ _ _ _ _ _ _ _ _ _ _ _ _ _ _
      | exact ih3 _ _ _ _ _ _ _ _ _ _ _ _ _ _ _ _ _ _ _ _ _
      | exact literal_Parse.mono _ _
      | exact rat_Div.mono _ _ _ _ _ _ _
      | exact rat_Mul.mono _ _ _ _ _ _ _
      | exact rat_Whole.mono _ _
      | exact steelyardkeep_Rat.mono _ _ _ _ _ _ _
      | exact steelyardlaw09_dec.mono _ _
      | exact steelyardlaw09_wakes.mono _
      | exact LeO.none _
      | refine LeO.ite ?_ ?_
      | refine LeO.bind ?_ (fun _ => ?_)
end Go.Proofs.YtnilfndadahgaaaDoor.P
