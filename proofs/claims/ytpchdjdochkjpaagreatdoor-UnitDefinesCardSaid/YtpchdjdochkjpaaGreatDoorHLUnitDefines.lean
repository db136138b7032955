/- Contracts: each Go function of a package comes to its plain function. -/
import Derived.Test.YtpchdjdochkjpaaGreatDoorMc
import Derived.Test.YtpchdjdochkjpaaGreatDoorPxLUnitDefines
import Derived.Test.YtpchdjdochkjpaaGreatDoorHsteelyardlaw12
import Derived.Test.YtpchdjdochkjpaaGreatDoorHunitt
import Derived.Test.YtpchdjdochkjpaaGreatDoorHsteelyardref12
import Derived.Test.YtpchdjdochkjpaaGreatDoorHunitr
import Derived.Test.YtpchdjdochkjpaaGreatDoorHk
set_option linter.unusedVariables false
set_option linter.unusedSimpArgs false
set_option maxRecDepth 100000
set_option maxHeartbeats 8000000
namespace Go.Proofs.YtpchdjdochkjpaaGreatDoor.P
open Go Go.RowKit Go.Proofs.YtpchdjdochkjpaaGreatDoor.Am Go.Proofs.YtpchdjdochkjpaaGreatDoorW.PrintWords Go.Proofs.YtpchdjdochkjpaaGreatDoorW.PrintMore
attribute [local irreducible] cpy rd bt strOfNums ByteArray.extract
theorem steelyardlaw12_UnitDefines.holds (k : Nat) (n : ByteArray) (u : Un) (r : Bool) (h : steelyardlaw12_UnitDefines.f k n u = some r) : Holds Tryz.prog (G0 0) 7 [] [.str n, avU u] (.bool r) [] := by
 refine holds_of_sim (fun (r : Bool) => ⟨.bool r, [], fun _ => True⟩) h Tryz.func7 rfl (by kernel_rfl) 123 rfl (by simp) (by simp) [(0, .str n), (1, avU u)] rfl [] rfl [.tmp 4] rfl ?_
 clear h
 unfold steelyardlaw12_UnitDefines.f
 refine sim_mk ?_
 repeat' first
  | ((with_reducible refine gS ?_); first
   | with_reducible refine sim_seq ?_
   | with_reducible refine sim_block ?_
   | with_reducible refine sim_skip ?_
   | with_reducible refine sim_inBlock ?_
   | with_reducible exact sim_none
   | refine sR (h := ?_)
   | refine sX (h := ?_)
   | refine sD (hm := by exact mixed) (h := ?_)
   | refine sDl (hm := by exact mixed) (h := ?_)
   | ((with_reducible refine sGb ?_); first | refine sTe (h := ?_) | refine sFd (h := ?_) | refine sTb (h := ?_) | refine sFb (h := ?_))
   | with_reducible refine sIn (fun hb => ?_) (fun hb => ?_)
   | with_reducible refine sBd (fun hb hc => ?_) (fun hb hc => ?_) (fun hb hc => ?_) (fun hb hc => ?_)
   | ((with_reducible refine sGb ?_); refine sIb (fun hb => ?_) (fun hb => ?_))
   | ((with_reducible refine sGi ?_); first | refine sT (h := ?_) | refine sF' (h := ?_) | refine sI (fun hb hc => ?_) (fun hb hc => ?_))
   | with_reducible refine sim_let ?_
   | refine sY (h := ?_)
   | refine sN (h := ?_)
   | refine sF [] false
   | refine sFe [] false
   | fail)
  | ((with_reducible refine gO ?_); first
   | with_reducible exact simB_none
   | ((with_reducible refine oGb ?_); first | refine oTe (h := ?_) | refine oFd (h := ?_) | refine oTb (h := ?_) | refine oFb (h := ?_))
   | with_reducible refine oIn (fun hb => ?_) (fun hb => ?_)
   | with_reducible refine oBd (fun hb hc => ?_) (fun hb hc => ?_) (fun hb hc => ?_) (fun hb hc => ?_)
   | ((with_reducible refine oGb ?_); refine oIb (fun hb => ?_) (fun hb => ?_))
   | ((with_reducible refine oGi ?_); first | refine oT (h := ?_) | refine oF' (h := ?_) | refine oI (fun hb hc => ?_) (fun hb hc => ?_))
   | with_reducible refine simB_let ?_
   | refine oNil (h := ?_)
   | refine oLast (h := ?_)
   | refine oNw (hc := new_calls) (h := fun tb => ?_)
   | ((with_reducible refine gC ?_); first
    | refine oC true (hh := fun t ht => steelyardlaw12_wakes.holds _ t ht) (h := fun t => ?_)
    | refine oCg true (hh := fun t ht => steelyardlaw12_wakes.holds _ t ht) (h := fun t => ?_)
    | refine oC true (hh := fun t ht => steelyardlaw12_Long.holds _ _ _ _ _ _ _ _ _ _ t ht) (h := fun t => ?_)
    | refine oCg true (hh := fun t ht => steelyardlaw12_Long.holds _ _ _ _ _ _ _ _ _ _ t ht) (h := fun t => ?_)
    | refine oX [] (hh := fun t ht => unit_Table_Define.holds _ tb _ _ _ t ht) (h := fun t => ?_)
    | refine oXg [] (hh := fun t ht => unit_Table_Define.holds _ tb _ _ _ t ht) (h := fun t => ?_)
    | refine oC true (hh := fun t ht => unit_Table_Define_nil.holds _ _ t ht) (h := fun t => ?_)
    | refine oCg true (hh := fun t ht => unit_Table_Define_nil.holds _ _ t ht) (h := fun t => ?_)
    | refine oX [] (hh := fun t ht => unit_Table_Of.holds _ tb _ _ t ht) (h := fun t => ?_)
    | refine oXg [] (hh := fun t ht => unit_Table_Of.holds _ tb _ _ t ht) (h := fun t => ?_)
    | refine oX [] (hh := fun t ht => unit_Table_Has.holds _ tb _ _ t ht) (h := fun t => ?_)
    | refine oXg [] (hh := fun t ht => unit_Table_Has.holds _ tb _ _ t ht) (h := fun t => ?_)
    | refine oC true (hh := fun t ht => steelyardkeep_Unit.holds _ _ _ t ht) (h := fun t => ?_)
    | refine oCg true (hh := fun t ht => steelyardkeep_Unit.holds _ _ _ t ht) (h := fun t => ?_)
    | refine oX [] (hh := fun t ht => unit_Table_Parse.holds _ tb _ _ t ht) (h := fun t => ?_)
    | refine oXg [] (hh := fun t ht => unit_Table_Parse.holds _ tb _ _ t ht) (h := fun t => ?_)
    | refine oC false (hh := fun t ht => unit_Table_Parse_nil.holds _ t ht) (h := fun t => ?_)
    | refine oCg false (hh := fun t ht => unit_Table_Parse_nil.holds _ t ht) (h := fun t => ?_)
    | refine oX [] (hh := fun t ht => unit_Table_Names.holds _ tb _ t ht) (h := fun t => ?_)
    | refine oXg [] (hh := fun t ht => unit_Table_Names.holds _ tb _ t ht) (h := fun t => ?_)
    | refine oC true (hh := fun t ht => steelyardref12_May.holds _ _ t ht) (h := fun t => ?_)
    | refine oCg true (hh := fun t ht => steelyardref12_May.holds _ _ t ht) (h := fun t => ?_)
    | refine oC true (hh := fun t ht => steelyardref12_Name.holds _ _ t ht) (h := fun t => ?_)
    | refine oCg true (hh := fun t ht => steelyardref12_Name.holds _ _ t ht) (h := fun t => ?_)
    | fail)
   | refine oV (h := ?_)
   | refine oVg (h := ?_)
   | refine oKg (h := ?_)
   | refine oKu (h := ?_)
   | refine oS (h := ?_)
   | refine oN (h := ?_)
   | refine oNg (h := ?_)
   | refine oA (h := ?_)
   | fail)
  | fail

end Go.Proofs.YtpchdjdochkjpaaGreatDoor.P
