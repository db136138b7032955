/- Plain functions: what the Go functions of a package come to. -/
import Derived.Test.YtpchdjdochkjpaaGreatDoorYWords
import Derived.Test.YtpchdjdochkjpaaGreatDoorMx
set_option linter.unusedVariables false
set_option linter.unusedSimpArgs false
namespace Go.Proofs.YtpchdjdochkjpaaGreatDoor.P
open Go.RowKit Go.Proofs.YtpchdjdochkjpaaGreatDoorW.PrintWords Go.Proofs.YtpchdjdochkjpaaGreatDoorW.PrintLast Go.Proofs.YtpchdjdochkjpaaGreatDoorW.PrintMore
def steelyardlaw12_UnitProducts.f (k : Nat) (a b : ByteArray) : Option Bool := if wrap64 ((a.size : Int) + (b.size : Int)) > 150 then ((steelyardlaw12_wakes.f k).bind fun z => (some z)) else ((unit_Table_Parse.f k none a).bind fun x => ((unit_Table_Parse.f k (some x.1) b).bind fun y => (if a.size + 1 ≤ 9223372036854775807 then (if (a ++ (⟨#[42]⟩ : ByteArray)).size + b.size ≤ 9223372036854775807 then ((unit_Table_Parse.f k (some y.1) ((a ++ (⟨#[42]⟩ : ByteArray)) ++ b)).bind fun g => (if x.2.2.1 = 0 then ((steelyardref12_May.f k x.2.1).bind fun m => (if m = true then (if y.2.2.1 = 12 then (if g.2.2.1 = 0 then (none) else ((steelyardlaw12_wakes.f k).bind fun z => (some z))) else (if y.2.2.1 = 15 then (if g.2.2.1 = 0 then (none) else ((steelyardlaw12_wakes.f k).bind fun z => (some z))) else (if y.2.2.1 = 0 then (if g.2.2.1 = 0 then ((dim_Mul.f x.2.1.d y.2.1.d).bind fun d => ((rat_Mul.f k x.2.1.g x.2.1.m x.2.1.b y.2.1.g y.2.1.m y.2.1.b).bind fun r => (if ((decide (g.2.1.d.d0 = d.1.d0) && (decide (g.2.1.d.d1 = d.1.d1) && (decide (g.2.1.d.d2 = d.1.d2) && (decide (g.2.1.d.d3 = d.1.d3) && (decide (g.2.1.d.d4 = d.1.d4) && (decide (g.2.1.d.d5 = d.1.d5) && (decide (g.2.1.d.d6 = d.1.d6))))))))) = true then ((steelyardkeep_Rat.f k g.2.1.g g.2.1.m g.2.1.b r.1 r.2.1 r.2.2.1).bind fun c => (if c = true then (if d.2 = 0 then (if r.2.2.2 = 0 then (((steelyardlaw12_wakes.f k).bind fun z => (some z))) else (none)) else (none)) else (none))) else (none)))) else (if g.2.2.1 = 2 then ((steelyardlaw12_wakes.f k).bind fun z => (some z)) else (none))) else (if y.2.2.1 = 2 then ((steelyardlaw12_wakes.f k).bind fun z => (some z)) else (none))))) else (none))) else (if g.2.2.1 = 0 then (none) else (if (x.2.1.b.length : Int) = 0 then ((steelyardlaw12_wakes.f k).bind fun z => (some z)) else (none))))) else (none)) else (none))))
theorem steelyardlaw12_UnitProducts.mono : ∀ y0 y1 k, LeO (steelyardlaw12_UnitProducts.f k y0 y1) (steelyardlaw12_UnitProducts.f (k + 1) y0 y1) := by
  intro y0 y1 k
  unfold steelyardlaw12_UnitProducts.f
  repeat' first
   | with_reducible first
    | exact steelyardlaw12_wakes.mono _
    | exact unit_Table_Parse.mono _ _ _
    | exact steelyardref12_May.mono _ _
    | exact rat_Mul.mono _ _ _ _ _ _ _
    | exact steelyardkeep_Rat.mono _ _ _ _ _ _ _
    | exact LeO.refl _
    | exact LeO.none _
    | refine LeO.ite ?_ ?_
    | refine LeO.bind ?_ (fun _ => ?_)
    | refine LeO.lkp (fun _ => ?_) ?_
    | refine LeO.mput (fun _ => ?_)
   | refine LeO.ite ?_ ?_ | refine LeO.bind ?_ (fun _ => ?_)

end Go.Proofs.YtpchdjdochkjpaaGreatDoor.P
