/- Plain functions: what the Go functions of a package come to. -/
import Derived.Test.YtpchdjdochkjpaaGreatDoorYWords
import Derived.Test.YtpchdjdochkjpaaGreatDoorMx
set_option linter.unusedVariables false
set_option linter.unusedSimpArgs false
namespace Go.Proofs.YtpchdjdochkjpaaGreatDoor.P
open Go.RowKit Go.Proofs.YtpchdjdochkjpaaGreatDoorW.PrintWords Go.Proofs.YtpchdjdochkjpaaGreatDoorW.PrintLast Go.Proofs.YtpchdjdochkjpaaGreatDoorW.PrintMore
def steelyardlaw12_UnitNames.p (k : Nat) (n q : Int) (l : Tab) : Option Bool := if 0 ≤ (Int.tmod (wrap64 n) 15) then (if (Int.tmod (wrap64 n) 15) < ((15 : Nat) : Int) then (([⟨#[109]⟩, ⟨#[115]⟩, ⟨#[65]⟩, ⟨#[75]⟩, ⟨#[109, 111, 108]⟩, ⟨#[99, 100]⟩, ⟨#[103]⟩, ⟨#[72, 122]⟩, ⟨#[78]⟩, ⟨#[80, 97]⟩, ⟨#[74]⟩, ⟨#[87]⟩, ⟨#[67]⟩, ⟨#[86]⟩, ⟨#[76]⟩] : List ByteArray)[(Int.tmod (wrap64 n) 15).toNat]?).bind fun b => ((rat_Whole.f k 1000).bind fun r0 => ((rat_Whole.f k 1000000).bind fun r1 => ((steelyardlaw07_By.f k 1 1000).bind fun r2 => ((steelyardlaw07_By.f k 1 1000000).bind fun r3 => ((steelyardlaw07_By.f k 1 100).bind fun r4 => (if 0 ≤ (Int.tmod (wrap64 q) 5) then (if (Int.tmod (wrap64 q) 5) < ((5 : Nat) : Int) then ((([r0, r1, r2, r3, r4] : List (Bool × List Int × List Int))[(Int.tmod (wrap64 q) 5).toNat]?).bind fun y => ((unit_Table_Of.f k (some l) b).bind fun x => (if (Int.tmod (wrap64 q) 5) ≤ wrap64 ((Int.tmod (wrap64 q) 5) + 1) then (if wrap64 ((Int.tmod (wrap64 q) 5) + 1) ≤ ((5 : Nat) : Int) then (if ((⟨#[107, 77, 109, 117, 99]⟩ : ByteArray).extract (Int.tmod (wrap64 q) 5).toNat (wrap64 ((Int.tmod (wrap64 q) 5) + 1)).toNat).size + b.size ≤ 9223372036854775807 then ((unit_Table_Of.f k (some x.1) ((⟨#[107, 77, 109, 117, 99]⟩ : ByteArray).extract (Int.tmod (wrap64 q) 5).toNat (wrap64 ((Int.tmod (wrap64 q) 5) + 1)).toNat ++ b)).bind fun w => ((rat_Mul.f k x.2.1.g x.2.1.m x.2.1.b y.1 y.2.1 y.2.2).bind fun z => (if x.2.2 = true then (if w.2.2 = true then (if z.2.2.2 = 0 then ((steelyardkeep_Rat.f k w.2.1.g w.2.1.m w.2.1.b z.1 z.2.1 z.2.2.1).bind fun c => (if c = true then (if ((decide (x.2.1.d.d0 = w.2.1.d.d0) && (decide (x.2.1.d.d1 = w.2.1.d.d1) && (decide (x.2.1.d.d2 = w.2.1.d.d2) && (decide (x.2.1.d.d3 = w.2.1.d.d3) && (decide (x.2.1.d.d4 = w.2.1.d.d4) && (decide (x.2.1.d.d5 = w.2.1.d.d5) && (decide (x.2.1.d.d6 = w.2.1.d.d6))))))))) = true then ((steelyardlaw12_wakes.f k).bind fun v => (some v)) else (none)) else (none))) else (none)) else (none)) else (none)))) else (none)) else (none)) else (none)))) else (none)) else (none))))))) else (none)) else (none)
def steelyardlaw12_UnitNames.r (k : Nat) (n q : Int) (l : Tab) (m : List ByteArray) : Option Bool := if (m.length : Int) = 0 then (none) else (if 0 ≤ Int.tmod (wrap64 n) (m.length : Int) then ((m[(Int.tmod (wrap64 n) (m.length : Int)).toNat]?).bind fun b => ((unit_Table_Of.f k (some l) b).bind fun u => ((unit_Table_Parse.f k (some u.1) b).bind fun v => (if b.size + 2 ≤ 9223372036854775807 then ((unit_Table_Parse.f k (some v.1) (b ++ (⟨#[94, 50]⟩ : ByteArray))).bind fun w => ((rat_Mul.f k u.2.1.g u.2.1.m u.2.1.b u.2.1.g u.2.1.m u.2.1.b).bind fun s => ((dim_Pow.f u.2.1.d 2).bind fun d => (if u.2.2 = true then (if v.2.2.1 = 0 then ((steelyardkeep_Unit.f k u.2.1 v.2.1).bind fun c1 => (if c1 = true then (if w.2.2.1 = 0 then (if s.2.2.2 = 0 then (if d.2 = 0 then ((steelyardkeep_Rat.f k w.2.1.g w.2.1.m w.2.1.b s.1 s.2.1 s.2.2.1).bind fun c2 => (if c2 = true then (if ((decide (w.2.1.d.d0 = d.1.d0) && (decide (w.2.1.d.d1 = d.1.d1) && (decide (w.2.1.d.d2 = d.1.d2) && (decide (w.2.1.d.d3 = d.1.d3) && (decide (w.2.1.d.d4 = d.1.d4) && (decide (w.2.1.d.d5 = d.1.d5) && (decide (w.2.1.d.d6 = d.1.d6))))))))) = true then ((unit_Table_Has.f k (some w.1) b).bind fun h => (if h.2 = true then (steelyardlaw12_UnitNames.p k n q h.1) else (none))) else (none)) else (none))) else (none)) else (none)) else (none)) else (none))) else (none)) else (none))))) else (none))))) else (none))
def steelyardlaw12_UnitNames.l0 : Nat → Int → Int → Tab → List ByteArray → Int → Option Bool
  | 0, _, _, _, _, _ => none
  | k + 1, n, q, l, m, i => if i < (m.length : Int) then (if 0 ≤ i then ((m[i.toNat]?).bind fun x => (if 0 ≤ wrap64 (i - 1) then ((m[(wrap64 (i - 1)).toNat]?).bind fun y => (if (Go.Op.bytesLess x.toList y.toList || decide (x.toList = y.toList)) = true then (none) else (steelyardlaw12_UnitNames.l0 k n q l m (wrap64 (i + 1))))) else (none))) else (none)) else (steelyardlaw12_UnitNames.r k n q l m)
def steelyardlaw12_UnitNames.f (k : Nat) (n q : Int) : Option Bool := (unit_Table_Names.f k none).bind fun t => (if (t.2.length : Int) = 92 then (steelyardlaw12_UnitNames.l0 k n q t.1 t.2 1) else (none))
theorem steelyardlaw12_UnitNames.mono_p : ∀ k, ∀ y0 y1 y2, LeO (steelyardlaw12_UnitNames.p k y0 y1 y2) (steelyardlaw12_UnitNames.p (k + 1) y0 y1 y2) := by
  intro k y0 y1 y2
  unfold steelyardlaw12_UnitNames.p
  repeat' first
   | with_reducible first
    | exact steelyardlaw12_wakes.mono _
    | exact unit_Table_Names.mono _ _
    | exact unit_Table_Of.mono _ _ _
    | exact unit_Table_Parse.mono _ _ _
    | exact rat_Mul.mono _ _ _ _ _ _ _
    | exact steelyardkeep_Unit.mono _ _ _
    | exact steelyardkeep_Rat.mono _ _ _ _ _ _ _
    | exact unit_Table_Has.mono _ _ _
    | exact rat_Whole.mono _ _
    | exact steelyardlaw07_By.mono _ _ _
    | exact LeO.refl _
    | exact LeO.none _
    | refine LeO.ite ?_ ?_
    | refine LeO.bind ?_ (fun _ => ?_)
    | refine LeO.lkp (fun _ => ?_) ?_
    | refine LeO.mput (fun _ => ?_)
   | refine LeO.ite ?_ ?_ | refine LeO.bind ?_ (fun _ => ?_)
theorem steelyardlaw12_UnitNames.mono_r : ∀ k, ∀ y0 y1 y2 y3, LeO (steelyardlaw12_UnitNames.r k y0 y1 y2 y3) (steelyardlaw12_UnitNames.r (k + 1) y0 y1 y2 y3) := by
  intro k y0 y1 y2 y3
  unfold steelyardlaw12_UnitNames.r
  repeat' first
   | with_reducible first
    | exact steelyardlaw12_UnitNames.mono_p _ _ _ _
    | exact steelyardlaw12_wakes.mono _
    | exact unit_Table_Names.mono _ _
    | exact unit_Table_Of.mono _ _ _
    | exact unit_Table_Parse.mono _ _ _
    | exact rat_Mul.mono _ _ _ _ _ _ _
    | exact steelyardkeep_Unit.mono _ _ _
    | exact steelyardkeep_Rat.mono _ _ _ _ _ _ _
    | exact unit_Table_Has.mono _ _ _
    | exact rat_Whole.mono _ _
    | exact steelyardlaw07_By.mono _ _ _
    | exact LeO.refl _
    | exact LeO.none _
    | refine LeO.ite ?_ ?_
    | refine LeO.bind ?_ (fun _ => ?_)
    | refine LeO.lkp (fun _ => ?_) ?_
    | refine LeO.mput (fun _ => ?_)
   | refine LeO.ite ?_ ?_ | refine LeO.bind ?_ (fun _ => ?_)
theorem steelyardlaw12_UnitNames.mono_l0 : ∀ k, ∀ y0 y1 y2 y3 y4, LeO (steelyardlaw12_UnitNames.l0 k y0 y1 y2 y3 y4) (steelyardlaw12_UnitNames.l0 (k + 1) y0 y1 y2 y3 y4)
  | 0, _, _, _, _, _ => fun r h => by simp [steelyardlaw12_UnitNames.l0] at h
  | k + 1, y0, y1, y2, y3, y4 => by
    have ih0 := steelyardlaw12_UnitNames.mono_l0 k
    unfold steelyardlaw12_UnitNames.l0
    repeat' first
     | with_reducible first
      | exact ih0 _ _ _ _ _
      | exact steelyardlaw12_UnitNames.mono_p _ _ _ _
      | exact steelyardlaw12_UnitNames.mono_r _ _ _ _ _
      | exact steelyardlaw12_wakes.mono _
      | exact unit_Table_Names.mono _ _
      | exact unit_Table_Of.mono _ _ _
      | exact unit_Table_Parse.mono _ _ _
      | exact rat_Mul.mono _ _ _ _ _ _ _
      | exact steelyardkeep_Unit.mono _ _ _
      | exact steelyardkeep_Rat.mono _ _ _ _ _ _ _
      | exact unit_Table_Has.mono _ _ _
      | exact rat_Whole.mono _ _
      | exact steelyardlaw07_By.mono _ _ _
      | exact LeO.refl _
      | exact LeO.none _
      | refine LeO.ite ?_ ?_
      | refine LeO.bind ?_ (fun _ => ?_)
      | refine LeO.lkp (fun _ => ?_) ?_
      | refine LeO.mput (fun _ => ?_)
     | refine LeO.ite ?_ ?_ | refine LeO.bind ?_ (fun _ => ?_)
theorem steelyardlaw12_UnitNames.mono : ∀ y0 y1 k, LeO (steelyardlaw12_UnitNames.f k y0 y1) (steelyardlaw12_UnitNames.f (k + 1) y0 y1) := by
  intro y0 y1 k
  unfold steelyardlaw12_UnitNames.f
  repeat' first
   | with_reducible first
    | exact steelyardlaw12_UnitNames.mono_p _ _ _ _
    | exact steelyardlaw12_UnitNames.mono_r _ _ _ _ _
    | exact steelyardlaw12_UnitNames.mono_l0 _ _ _ _ _ _
    | exact steelyardlaw12_wakes.mono _
    | exact unit_Table_Names.mono _ _
    | exact unit_Table_Of.mono _ _ _
    | exact unit_Table_Parse.mono _ _ _
    | exact rat_Mul.mono _ _ _ _ _ _ _
    | exact steelyardkeep_Unit.mono _ _ _
    | exact steelyardkeep_Rat.mono _ _ _ _ _ _ _
    | exact unit_Table_Has.mono _ _ _
    | exact rat_Whole.mono _ _
    | exact steelyardlaw07_By.mono _ _ _
    | exact LeO.refl _
    | exact LeO.none _
    | refine LeO.ite ?_ ?_
    | refine LeO.bind ?_ (fun _ => ?_)
    | refine LeO.lkp (fun _ => ?_) ?_
    | refine LeO.mput (fun _ => ?_)
   | refine LeO.ite ?_ ?_ | refine LeO.bind ?_ (fun _ => ?_)

end Go.Proofs.YtpchdjdochkjpaaGreatDoor.P
