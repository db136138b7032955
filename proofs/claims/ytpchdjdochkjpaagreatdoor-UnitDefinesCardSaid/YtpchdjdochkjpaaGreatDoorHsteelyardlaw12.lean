/- Contracts: each Go function of a package comes to its plain function. -/
import Derived.Test.YtpchdjdochkjpaaGreatDoorMc
import Derived.Test.YtpchdjdochkjpaaGreatDoorMx
import Derived.Test.YtpchdjdochkjpaaGreatDoorHunitr
import Derived.Test.YtpchdjdochkjpaaGreatDoorHk
import Derived.Test.YtpchdjdochkjpaaGreatDoorHunitt
import Derived.Test.YtpchdjdochkjpaaGreatDoorHrat
set_option linter.unusedVariables false
set_option linter.unusedSimpArgs false
set_option maxRecDepth 100000
set_option maxHeartbeats 8000000
namespace Go.Proofs.YtpchdjdochkjpaaGreatDoor.P
open Go Go.RowKit Go.Proofs.YtpchdjdochkjpaaGreatDoor.Am Go.Proofs.YtpchdjdochkjpaaGreatDoorW.PrintWords Go.Proofs.YtpchdjdochkjpaaGreatDoorW.PrintMore
attribute [local irreducible] cpy rd bt strOfNums ByteArray.extract
theorem steelyardlaw12_wakes.holds (k : Nat)  (r : Bool) (h : steelyardlaw12_wakes.f k = some r) : Holds Tryz.prog (G0 0) 10 [] [] (.bool r) [] := by
 refine holds_of_sim (fun (r : Bool) => ⟨.bool r, [], fun _ => True⟩) h Tryz.func10 rfl (by kernel_rfl) 139 rfl (by simp) (by simp) [] rfl [] rfl [.tmp 0] rfl ?_
 clear h
 unfold steelyardlaw12_wakes.f
 refine sim_mk ?_
 repeat' first
  | ((with_reducible refine gS ?_); first
   | with_reducible refine sim_seq ?_
   | with_reducible refine sim_block ?_
   | with_reducible refine sim_skip ?_
   | with_reducible refine sim_inBlock ?_
   | with_reducible exact sim_none
   | refine sR (h := ?_)
   | refine sX (h := ?_)
   | refine sD (hm := by exact mixed) (h := ?_)
   | refine sDl (hm := by exact mixed) (h := ?_)
   | ((with_reducible refine sGb ?_); first | refine sTe (h := ?_) | refine sFd (h := ?_) | refine sTb (h := ?_) | refine sFb (h := ?_))
   | with_reducible refine sIn (fun hb => ?_) (fun hb => ?_)
   | with_reducible refine sBd (fun hb hc => ?_) (fun hb hc => ?_) (fun hb hc => ?_) (fun hb hc => ?_)
   | ((with_reducible refine sGb ?_); refine sIb (fun hb => ?_) (fun hb => ?_))
   | ((with_reducible refine sGi ?_); first | refine sT (h := ?_) | refine sF' (h := ?_) | refine sI (fun hb hc => ?_) (fun hb hc => ?_))
   | with_reducible refine sim_let ?_
   | refine sY (h := ?_)
   | refine sN (h := ?_)
   | refine sF [] false
   | refine sFe [] false
   | fail)
  | ((with_reducible refine gO ?_); first
   | with_reducible exact simB_none
   | ((with_reducible refine oGb ?_); first | refine oTe (h := ?_) | refine oFd (h := ?_) | refine oTb (h := ?_) | refine oFb (h := ?_))
   | with_reducible refine oIn (fun hb => ?_) (fun hb => ?_)
   | with_reducible refine oBd (fun hb hc => ?_) (fun hb hc => ?_) (fun hb hc => ?_) (fun hb hc => ?_)
   | ((with_reducible refine oGb ?_); refine oIb (fun hb => ?_) (fun hb => ?_))
   | ((with_reducible refine oGi ?_); first | refine oT (h := ?_) | refine oF' (h := ?_) | refine oI (fun hb hc => ?_) (fun hb hc => ?_))
   | with_reducible refine simB_let ?_
   | refine oNil (h := ?_)
   | refine oLast (h := ?_)
   | refine oNw (hc := new_calls) (h := fun tb => ?_)
   | ((with_reducible refine gC ?_); first
    | refine oX [] (hh := fun t ht => unit_Table_Define.holds _ tb _ _ _ t ht) (h := fun t => ?_)
    | refine oXg [] (hh := fun t ht => unit_Table_Define.holds _ tb _ _ _ t ht) (h := fun t => ?_)
    | refine oC true (hh := fun t ht => unit_Table_Define_nil.holds _ _ t ht) (h := fun t => ?_)
    | refine oCg true (hh := fun t ht => unit_Table_Define_nil.holds _ _ t ht) (h := fun t => ?_)
    | refine oX [] (hh := fun t ht => unit_Table_Of.holds _ tb _ _ t ht) (h := fun t => ?_)
    | refine oXg [] (hh := fun t ht => unit_Table_Of.holds _ tb _ _ t ht) (h := fun t => ?_)
    | refine oX [] (hh := fun t ht => unit_Table_Has.holds _ tb _ _ t ht) (h := fun t => ?_)
    | refine oXg [] (hh := fun t ht => unit_Table_Has.holds _ tb _ _ t ht) (h := fun t => ?_)
    | refine oC true (hh := fun t ht => steelyardkeep_Unit.holds _ _ _ t ht) (h := fun t => ?_)
    | refine oCg true (hh := fun t ht => steelyardkeep_Unit.holds _ _ _ t ht) (h := fun t => ?_)
    | refine oX [] (hh := fun t ht => unit_Table_Parse.holds _ tb _ _ t ht) (h := fun t => ?_)
    | refine oXg [] (hh := fun t ht => unit_Table_Parse.holds _ tb _ _ t ht) (h := fun t => ?_)
    | refine oC false (hh := fun t ht => unit_Table_Parse_nil.holds _ t ht) (h := fun t => ?_)
    | refine oCg false (hh := fun t ht => unit_Table_Parse_nil.holds _ t ht) (h := fun t => ?_)
    | refine oX [] (hh := fun t ht => unit_Table_Names.holds _ tb _ t ht) (h := fun t => ?_)
    | refine oXg [] (hh := fun t ht => unit_Table_Names.holds _ tb _ t ht) (h := fun t => ?_)
    | refine oC true (hh := fun t ht => steelyardkeep_Rat.holds _ _ _ _ _ _ _ t ht) (h := fun t => ?_)
    | refine oCg true (hh := fun t ht => steelyardkeep_Rat.holds _ _ _ _ _ _ _ t ht) (h := fun t => ?_)
    | refine oC false (hh := fun t ht => rat_Whole.holds _ _ t ht) (h := fun t => ?_)
    | refine oCg false (hh := fun t ht => rat_Whole.holds _ _ t ht) (h := fun t => ?_)
    | refine oC false (hh := fun t ht => steelyardlaw07_By.holds _ _ _ t ht) (h := fun t => ?_)
    | refine oCg false (hh := fun t ht => steelyardlaw07_By.holds _ _ _ t ht) (h := fun t => ?_)
    | fail)
   | refine oV (h := ?_)
   | refine oVg (h := ?_)
   | refine oKg (h := ?_)
   | refine oKu (h := ?_)
   | refine oS (h := ?_)
   | refine oN (h := ?_)
   | refine oNg (h := ?_)
   | refine oA (h := ?_)
   | fail)
  | fail

theorem steelyardlaw12_dec.holds (a0 : Int) (r : ByteArray) (h : steelyardlaw12_dec.f a0 = some r) : Holds Tryz.prog (G0 0) 32 [] [.int .i64 a0] (.str r) [] := by
 refine holds_of_sim (fun (r : ByteArray) => ⟨.str r, [], fun _ => True⟩) h Tryz.func32 rfl (by kernel_rfl) 8 rfl (by simp) (by simp) [(0, .int .i64 a0)] rfl [] rfl [.tmp 2] rfl ?_
 clear h
 unfold steelyardlaw12_dec.f
 refine sim_mk ?_
 repeat' first
  | ((with_reducible refine gS ?_); first
   | with_reducible refine sim_seq ?_
   | with_reducible refine sim_block ?_
   | with_reducible refine sim_skip ?_
   | with_reducible refine sim_inBlock ?_
   | with_reducible exact sim_none
   | refine sR (h := ?_)
   | refine sX (h := ?_)
   | refine sD (hm := by exact mixed) (h := ?_)
   | refine sDl (hm := by exact mixed) (h := ?_)
   | ((with_reducible refine sGb ?_); first | refine sTe (h := ?_) | refine sFd (h := ?_) | refine sTb (h := ?_) | refine sFb (h := ?_))
   | with_reducible refine sBd (fun hb hc => ?_) (fun hb hc => ?_) (fun hb hc => ?_) (fun hb hc => ?_)
   | ((with_reducible refine sGb ?_); refine sIb (fun hb => ?_) (fun hb => ?_))
   | ((with_reducible refine sGi ?_); first | refine sT (h := ?_) | refine sF' (h := ?_) | refine sI (fun hb hc => ?_) (fun hb hc => ?_))
   | with_reducible refine sim_let ?_
   | refine sY (h := ?_)
   | refine sN (h := ?_)
   | refine sF [] false
   | refine sFe [] false
   | fail)
  | ((with_reducible refine gO ?_); first
   | with_reducible exact simB_none
   | ((with_reducible refine oGb ?_); first | refine oTe (h := ?_) | refine oFd (h := ?_) | refine oTb (h := ?_) | refine oFb (h := ?_))
   | with_reducible refine oBd (fun hb hc => ?_) (fun hb hc => ?_) (fun hb hc => ?_) (fun hb hc => ?_)
   | ((with_reducible refine oGb ?_); refine oIb (fun hb => ?_) (fun hb => ?_))
   | ((with_reducible refine oGi ?_); first | refine oT (h := ?_) | refine oF' (h := ?_) | refine oI (fun hb hc => ?_) (fun hb hc => ?_))
   | with_reducible refine simB_let ?_
   | refine oNil (h := ?_)
   | refine oLast (h := ?_)
   | refine oV (h := ?_)
   | refine oKu (h := ?_)
   | refine oS (h := ?_)
   | refine oN (h := ?_)
   | refine oA (h := ?_)
   | fail)
  | fail

theorem steelyardlaw12_Long.holds (a0_0 : Bool) (l0_1 : List Int) (l0_2 : List Int) (a0_3 : Int) (a0_4 : Int) (a0_5 : Int) (a0_6 : Int) (a0_7 : Int) (a0_8 : Int) (a0_9 : Int) (r : Bool) (h : steelyardlaw12_Long.f a0_0 l0_1 l0_2 a0_3 a0_4 a0_5 a0_6 a0_7 a0_8 a0_9 = some r) : Holds Tryz.prog (G0 0) 11 [] [.agg [.bool a0_0, .sl 1 (.int .u32 0) (l0_1.map (AV.int .u32)), .sl 1 (.int .u32 0) (l0_2.map (AV.int .u32)), .int .i64 a0_3, .int .i64 a0_4, .int .i64 a0_5, .int .i64 a0_6, .int .i64 a0_7, .int .i64 a0_8, .int .i64 a0_9]] (.bool r) [] := by
 refine holds_of_sim (fun (r : Bool) => ⟨.bool r, [], fun _ => True⟩) h Tryz.func11 rfl (by kernel_rfl) 6 rfl (by simp) (by simp) [(0, .agg [.bool a0_0, .sl 1 (.int .u32 0) (l0_1.map (AV.int .u32)), .sl 1 (.int .u32 0) (l0_2.map (AV.int .u32)), .int .i64 a0_3, .int .i64 a0_4, .int .i64 a0_5, .int .i64 a0_6, .int .i64 a0_7, .int .i64 a0_8, .int .i64 a0_9])] rfl [] rfl [.tmp 2] rfl ?_
 clear h
 unfold steelyardlaw12_Long.f
 refine sim_mk ?_
 repeat' first
  | ((with_reducible refine gS ?_); first
   | with_reducible refine sim_seq ?_
   | with_reducible refine sim_block ?_
   | with_reducible refine sim_skip ?_
   | with_reducible refine sim_inBlock ?_
   | with_reducible exact sim_none
   | refine sR (h := ?_)
   | refine sX (h := ?_)
   | refine sD (hm := by exact mixed) (h := ?_)
   | refine sDl (hm := by exact mixed) (h := ?_)
   | ((with_reducible refine sGb ?_); first | refine sTe (h := ?_) | refine sFd (h := ?_) | refine sTb (h := ?_) | refine sFb (h := ?_))
   | with_reducible refine sBd (fun hb hc => ?_) (fun hb hc => ?_) (fun hb hc => ?_) (fun hb hc => ?_)
   | ((with_reducible refine sGb ?_); refine sIb (fun hb => ?_) (fun hb => ?_))
   | ((with_reducible refine sGi ?_); first | refine sT (h := ?_) | refine sF' (h := ?_) | refine sI (fun hb hc => ?_) (fun hb hc => ?_))
   | with_reducible refine sim_let ?_
   | refine sY (h := ?_)
   | refine sN (h := ?_)
   | refine sF [] false
   | refine sFe [] false
   | fail)
  | ((with_reducible refine gO ?_); first
   | with_reducible exact simB_none
   | ((with_reducible refine oGb ?_); first | refine oTe (h := ?_) | refine oFd (h := ?_) | refine oTb (h := ?_) | refine oFb (h := ?_))
   | with_reducible refine oBd (fun hb hc => ?_) (fun hb hc => ?_) (fun hb hc => ?_) (fun hb hc => ?_)
   | ((with_reducible refine oGb ?_); refine oIb (fun hb => ?_) (fun hb => ?_))
   | ((with_reducible refine oGi ?_); first | refine oT (h := ?_) | refine oF' (h := ?_) | refine oI (fun hb hc => ?_) (fun hb hc => ?_))
   | with_reducible refine simB_let ?_
   | refine oNil (h := ?_)
   | refine oLast (h := ?_)
   | ((with_reducible refine gC ?_); first
    | refine oC true (hh := fun t ht => steelyardlaw07_Long.holds _ _ _ t ht) (h := fun t => ?_)
    | fail)
   | refine oV (h := ?_)
   | refine oKu (h := ?_)
   | refine oS (h := ?_)
   | refine oN (h := ?_)
   | refine oA (h := ?_)
   | fail)
  | fail

end Go.Proofs.YtpchdjdochkjpaaGreatDoor.P
