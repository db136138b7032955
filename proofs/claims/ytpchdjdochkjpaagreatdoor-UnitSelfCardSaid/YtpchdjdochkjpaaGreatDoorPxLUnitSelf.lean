/- Plain functions: what the Go functions of a package come to. -/
import Derived.Test.YtpchdjdochkjpaaGreatDoorYWords
import Derived.Test.YtpchdjdochkjpaaGreatDoorMx
set_option linter.unusedVariables false
set_option linter.unusedSimpArgs false
namespace Go.Proofs.YtpchdjdochkjpaaGreatDoor.P
open Go.RowKit Go.Proofs.YtpchdjdochkjpaaGreatDoorW.PrintWords Go.Proofs.YtpchdjdochkjpaaGreatDoorW.PrintLast Go.Proofs.YtpchdjdochkjpaaGreatDoorW.PrintMore
def steelyardlaw12_UnitSelf.f (k : Nat) (s : ByteArray) (n : Int) : Option Bool := if (s.size : Int) > 60 then ((steelyardlaw12_wakes.f k).bind fun w => (some w)) else ((steelyardref12_Name.f k s).bind fun q => ((unit_Table_Parse.f k none s).bind fun u => (if q = true then (if u.2.2.1 = 0 then ((steelyardlaw12_dec.f (Int.tmod (wrap64 n) 5)).bind fun w => ((rat_Whole.f k 1).bind fun o => (if s.size + 1 ≤ 9223372036854775807 then (if (s ++ (⟨#[47]⟩ : ByteArray)).size + s.size ≤ 9223372036854775807 then ((unit_Table_Parse.f k (some u.1) ((s ++ (⟨#[47]⟩ : ByteArray)) ++ s)).bind fun a => (if s.size + 1 ≤ 9223372036854775807 then (if (s ++ (⟨#[94]⟩ : ByteArray)).size + w.size ≤ 9223372036854775807 then (if ((s ++ (⟨#[94]⟩ : ByteArray)) ++ w).size + 1 ≤ 9223372036854775807 then (if (((s ++ (⟨#[94]⟩ : ByteArray)) ++ w) ++ (⟨#[42]⟩ : ByteArray)).size + s.size ≤ 9223372036854775807 then (if ((((s ++ (⟨#[94]⟩ : ByteArray)) ++ w) ++ (⟨#[42]⟩ : ByteArray)) ++ s).size + 2 ≤ 9223372036854775807 then (if (((((s ++ (⟨#[94]⟩ : ByteArray)) ++ w) ++ (⟨#[42]⟩ : ByteArray)) ++ s) ++ (⟨#[94, 45]⟩ : ByteArray)).size + w.size ≤ 9223372036854775807 then ((unit_Table_Parse.f k (some a.1) ((((((s ++ (⟨#[94]⟩ : ByteArray)) ++ w) ++ (⟨#[42]⟩ : ByteArray)) ++ s) ++ (⟨#[94, 45]⟩ : ByteArray)) ++ w)).bind fun b => (if 2 + s.size ≤ 9223372036854775807 then (if ((⟨#[32, 32]⟩ : ByteArray) ++ s).size + 5 ≤ 9223372036854775807 then ((unit_Table_Parse.f k (some b.1) (((⟨#[32, 32]⟩ : ByteArray) ++ s) ++ (⟨#[32, 94, 32, 49, 32]⟩ : ByteArray))).bind fun c => (if a.2.2.1 = 0 then (if b.2.2.1 = 0 then (if c.2.2.1 = 0 then ((steelyardkeep_Unit.f k a.2.1 ⟨o.1, o.2.1, o.2.2, ⟨0, 0, 0, 0, 0, 0, 0⟩⟩).bind fun d1 => (if d1 = true then ((steelyardkeep_Unit.f k b.2.1 ⟨o.1, o.2.1, o.2.2, ⟨0, 0, 0, 0, 0, 0, 0⟩⟩).bind fun d2 => (if d2 = true then ((steelyardkeep_Unit.f k c.2.1 u.2.1).bind fun d3 => (if d3 = true then ((steelyardlaw12_wakes.f k).bind fun z => (some z)) else (none))) else (none))) else (none))) else (none)) else (none)) else (none))) else (none)) else (none))) else (none)) else (none)) else (none)) else (none)) else (none)) else (none))) else (none)) else (none)))) else ((steelyardlaw12_wakes.f k).bind fun z => (some z))) else ((steelyardlaw12_wakes.f k).bind fun z => (some z)))))
theorem steelyardlaw12_UnitSelf.mono : ∀ y0 y1 k, LeO (steelyardlaw12_UnitSelf.f k y0 y1) (steelyardlaw12_UnitSelf.f (k + 1) y0 y1) := by
  intro y0 y1 k
  unfold steelyardlaw12_UnitSelf.f
  repeat' first
   | with_reducible first
    | exact steelyardlaw12_wakes.mono _
    | exact steelyardref12_Name.mono _ _
    | exact unit_Table_Parse.mono _ _ _
    | exact rat_Whole.mono _ _
    | exact steelyardkeep_Unit.mono _ _ _
    | exact LeO.refl _
    | exact LeO.none _
    | refine LeO.ite ?_ ?_
    | refine LeO.bind ?_ (fun _ => ?_)
    | refine LeO.lkp (fun _ => ?_) ?_
    | refine LeO.mput (fun _ => ?_)
   | refine LeO.ite ?_ ?_ | refine LeO.bind ?_ (fun _ => ?_)

end Go.Proofs.YtpchdjdochkjpaaGreatDoor.P
