/- Plain functions: what the Go functions of a package come to. -/
import Derived.Test.YtpchdjdochkjpaaGreatDoorYWords
import Derived.Test.YtpchdjdochkjpaaGreatDoorMx
set_option linter.unusedVariables false
set_option linter.unusedSimpArgs false
namespace Go.Proofs.YtpchdjdochkjpaaGreatDoor.P
open Go.RowKit Go.Proofs.YtpchdjdochkjpaaGreatDoorW.PrintWords Go.Proofs.YtpchdjdochkjpaaGreatDoorW.PrintLast Go.Proofs.YtpchdjdochkjpaaGreatDoorW.PrintMore
def steelyardlaw12_UnitDefines.f (k : Nat) (n : ByteArray) (u : Un) : Option Bool := if (n.size : Int) > 60 then ((steelyardlaw12_wakes.f k).bind fun z => (some z)) else ((steelyardlaw12_Long.f u.g u.m u.b u.d.d0 u.d.d1 u.d.d2 u.d.d3 u.d.d4 u.d.d5 u.d.d6).bind fun t => (if t = true then ((steelyardlaw12_wakes.f k).bind fun z => (some z)) else ((unit_Table_Has.f k none n).bind fun h => ((unit_Table_Define.f k (some h.1) n u).bind fun e => ((steelyardref12_May.f k u).bind fun m => (if m = true then ((steelyardref12_Name.f k n).bind fun q => (if q = true then (if h.2 = true then (if e.2 = 14 then ((unit_Table_Names.f k (some e.1)).bind fun l => (if (l.2.length : Int) = 92 then (((steelyardlaw12_wakes.f k).bind fun z => (some z))) else (none))) else (none)) else ((unit_Table_Of.f k (some e.1) n).bind fun v => ((unit_Table_Parse.f k (some v.1) n).bind fun w => (if e.2 = 0 then (if v.2.2 = true then ((steelyardkeep_Unit.f k u v.2.1).bind fun c1 => (if c1 = true then (if w.2.2.1 = 0 then ((steelyardkeep_Unit.f k w.2.1 u).bind fun c2 => (if c2 = true then ((unit_Table_Names.f k (some w.1)).bind fun l => (if (l.2.length : Int) = 93 then ((unit_Table_Define.f k (some l.1) n u).bind fun d => (if d.2 = 14 then (((steelyardlaw12_wakes.f k).bind fun z => (some z))) else (none))) else (none))) else (none))) else (none)) else (none))) else (none)) else (none))))) else (if e.2 = 1 then ((unit_Table_Has.f k (some e.1) n).bind fun h2 => (if (h2.2 == h.2) = true then ((unit_Table_Names.f k (some h2.1)).bind fun l => (if (l.2.length : Int) = 92 then (((steelyardlaw12_wakes.f k).bind fun z => (some z))) else (none))) else (none))) else (none)))) else (if e.2 = 1 then ((unit_Table_Has.f k (some e.1) n).bind fun h2 => (if (h2.2 == h.2) = true then ((unit_Table_Names.f k (some h2.1)).bind fun l => (if (l.2.length : Int) = 92 then (((steelyardlaw12_wakes.f k).bind fun z => (some z))) else (none))) else (none))) else (none))))))))
theorem steelyardlaw12_UnitDefines.mono : ∀ y0 y1 k, LeO (steelyardlaw12_UnitDefines.f k y0 y1) (steelyardlaw12_UnitDefines.f (k + 1) y0 y1) := by
  intro y0 y1 k
  unfold steelyardlaw12_UnitDefines.f
  repeat' first
   | with_reducible first
    | exact steelyardlaw12_wakes.mono _
    | exact unit_Table_Has.mono _ _ _
    | exact unit_Table_Define.mono _ _ _ _
    | exact steelyardref12_May.mono _ _
    | exact steelyardref12_Name.mono _ _
    | exact unit_Table_Names.mono _ _
    | exact unit_Table_Of.mono _ _ _
    | exact unit_Table_Parse.mono _ _ _
    | exact steelyardkeep_Unit.mono _ _ _
    | exact LeO.refl _
    | exact LeO.none _
    | refine LeO.ite ?_ ?_
    | refine LeO.bind ?_ (fun _ => ?_)
    | refine LeO.lkp (fun _ => ?_) ?_
    | refine LeO.mput (fun _ => ?_)
   | refine LeO.ite ?_ ?_ | refine LeO.bind ?_ (fun _ => ?_)

end Go.Proofs.YtpchdjdochkjpaaGreatDoor.P
