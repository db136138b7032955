/- Contracts: each Go function of a package comes to its plain function. -/
import Derived.Test.YtjgmmaeafodpmaaGreatDoorMb
import Derived.Test.YtjgmmaeafodpmaaGreatDoorMx
import Derived.Test.YtjgmmaeafodpmaaGreatDoorHsteelyardlaw07
import Derived.Test.YtjgmmaeafodpmaaGreatDoorHdecimal
import Derived.Test.YtjgmmaeafodpmaaGreatDoorHsteelyardkeep
import Derived.Test.YtjgmmaeafodpmaaGreatDoorHwhole
import Derived.Test.YtjgmmaeafodpmaaGreatDoorHrat
import Derived.Test.YtjgmmaeafodpmaaGreatDoorHdigits
set_option linter.unusedVariables false
set_option linter.unusedSimpArgs false
set_option maxRecDepth 100000
set_option maxHeartbeats 8000000
namespace Go.Proofs.YtjgmmaeafodpmaaGreatDoor.P
open Go Go.RowKit Go.Proofs.YtjgmmaeafodpmaaGreatDoor.Am Go.Proofs.YtjgmmaeafodpmaaGreatDoorW.PrintWords Go.Proofs.YtjgmmaeafodpmaaGreatDoorW.PrintMore
attribute [local irreducible] cpy rd bt strOfNums ByteArray.extract
theorem steelyardlaw10_wakes.holds {mx : Int} (k : Nat)  (r : Bool) (h : steelyardlaw10_wakes.f k = some r) : Holds Tryz.prog (G0 mx) 24 [] [] (.bool r) [] := by
  refine holds_of_sim (fun (r : Bool) => (.bool r, [])) h Tryz.func24 rfl (by kernel_rfl) 123 rfl (by simp) (by simp) [] rfl [] rfl [.tmp 0] rfl ?_
  clear h
  unfold steelyardlaw10_wakes.f
  refine sim_mk ?_
  repeat' first
   | ((with_reducible refine gS ?_); first
    | with_reducible refine sim_seq ?_
    | with_reducible refine sim_block ?_
    | with_reducible refine sim_skip ?_
    | with_reducible refine sim_inBlock ?_
    | with_reducible exact sim_none
    | refine sR (h := ?_)
    | refine sX (h := ?_)
    | refine sD (hm := by exact mixed) (h := ?_)
    | ((with_reducible refine sGb ?_); first | refine sTe (h := ?_) | refine sFd (h := ?_) | refine sTb (h := ?_) | refine sFb (h := ?_))
    | with_reducible refine sBd (fun hb hc => ?_) (fun hb hc => ?_) (fun hb hc => ?_) (fun hb hc => ?_)
    | ((with_reducible refine sGb ?_); refine sIb (fun hb => ?_) (fun hb => ?_))
    | ((with_reducible refine sGi ?_); first | refine sT (h := ?_) | refine sF' (h := ?_) | refine sI (fun hb hc => ?_) (fun hb hc => ?_))
    | with_reducible refine sim_let ?_
    | refine sY (h := ?_)
    | refine sN (h := ?_)
    | refine sF [] false
    | refine sFe [] false
    | fail)
   | ((with_reducible refine gO ?_); first
    | with_reducible exact simO_none
    | ((with_reducible refine oGb ?_); first | refine oTe (h := ?_) | refine oFd (h := ?_) | refine oTb (h := ?_) | refine oFb (h := ?_))
    | with_reducible refine oBd (fun hb hc => ?_) (fun hb hc => ?_) (fun hb hc => ?_) (fun hb hc => ?_)
    | ((with_reducible refine oGb ?_); refine oIb (fun hb => ?_) (fun hb => ?_))
    | ((with_reducible refine oGi ?_); first | refine oT (h := ?_) | refine oF' (h := ?_) | refine oI (fun hb hc => ?_) (fun hb hc => ?_))
    | with_reducible refine simO_let ?_
    | refine simO_nil ?_
    | ((with_reducible refine gC ?_); first
     | refine oCg true (hh := fun t ht => steelyardkeep_Rat.holds _ _ _ _ _ _ _ t ht) (h := fun t => ?_)
     | refine oC false (hh := fun t ht => steelyardlaw07_By.holds _ _ _ t ht) (h := fun t => ?_)
     | refine oC false (hh := fun t ht => decimal_Parse.holds _ _ t ht) (h := fun t => ?_)
     | refine oC true (hh := fun t ht => decimal_Down.holds _ _ _ _ _ t ht) (h := fun t => ?_)
     | refine oC true (hh := fun t ht => decimal_Up.holds _ _ _ _ _ t ht) (h := fun t => ?_)
     | refine oC true (hh := fun t ht => decimal_Near.holds _ _ _ _ _ t ht) (h := fun t => ?_)
     | refine oC false (hh := fun t ht => decimal_Floor.holds _ _ _ _ _ t ht) (h := fun t => ?_)
     | refine oCg true (hh := fun t ht => decimal_Exact.holds _ _ _ _ t ht) (h := fun t => ?_)
     | refine oCg true (hh := fun t ht => steelyardkeep_Int.holds _ _ _ _ _ t ht) (h := fun t => ?_)
     | refine oCg false (hh := fun t ht => whole_Of.holds _ _ t ht) (h := fun t => ?_)
     | refine oCg false (hh := fun t ht => rat_Whole.holds _ _ t ht) (h := fun t => ?_)
     | fail)
    | refine oV (h := ?_)
    | refine oVg (h := ?_)
    | refine oKg (h := ?_)
    | refine oKu (h := ?_)
    | refine oS (h := ?_)
    | refine oN (h := ?_)
    | refine oNg (h := ?_)
    | refine oA (h := ?_)
    | fail)
   | fail

theorem steelyardlaw10_number.holds {mx : Int} (k : Nat) (a0 : ByteArray) (a1 : Int) (r : Bool × List Int × List Int × Bool) (h : steelyardlaw10_number.f k a0 a1 = some r) : Holds Tryz.prog (G0 mx) 39 [] [.str a0, .int .i64 a1] (.tup [.agg [.bool r.1, .sl 1 (.int .u32 0) (r.2.1.map (AV.int .u32)), .sl 1 (.int .u32 0) (r.2.2.1.map (AV.int .u32))], .bool r.2.2.2]) [] := by
  refine holds_of_sim (fun (r : Bool × List Int × List Int × Bool) => (.tup [.agg [.bool r.1, .sl 1 (.int .u32 0) (r.2.1.map (AV.int .u32)), .sl 1 (.int .u32 0) (r.2.2.1.map (AV.int .u32))], .bool r.2.2.2], [])) h Tryz.func39 rfl (by kernel_rfl) 102 rfl (by simp) (by simp) [(0, .str a0), (1, .int .i64 a1)] rfl [] rfl [.cell 4 27, .tmp 5] rfl ?_
  clear h
  unfold steelyardlaw10_number.f
  refine sim_mk ?_
  repeat' first
   | ((with_reducible refine gS ?_); first
    | with_reducible refine sim_seq ?_
    | with_reducible refine sim_block ?_
    | with_reducible refine sim_skip ?_
    | with_reducible refine sim_inBlock ?_
    | with_reducible exact sim_none
    | refine sR (h := ?_)
    | refine sX (h := ?_)
    | refine sD (hm := by exact mixed) (h := ?_)
    | ((with_reducible refine sGb ?_); first | refine sTe (h := ?_) | refine sFd (h := ?_) | refine sTb (h := ?_) | refine sFb (h := ?_))
    | with_reducible refine sIn (fun hb => ?_) (fun hb => ?_)
    | with_reducible refine sBd (fun hb hc => ?_) (fun hb hc => ?_) (fun hb hc => ?_) (fun hb hc => ?_)
    | ((with_reducible refine sGb ?_); refine sIb (fun hb => ?_) (fun hb => ?_))
    | ((with_reducible refine sGi ?_); first | refine sT (h := ?_) | refine sF' (h := ?_) | refine sI (fun hb hc => ?_) (fun hb hc => ?_))
    | with_reducible refine sim_let ?_
    | refine sY (h := ?_)
    | refine sN (h := ?_)
    | refine IHl0.out _ (_, _, _, _, _, _, _) _ (by omega) ?_
    | (refine sim_loop (fun k (x : ByteArray × Int × ByteArray × Bool × Int × Bool × Int) => match x with | (x0, x1, x6, x7, x8, x9, x10) => steelyardlaw10_number.l0 k x0 x1 x6 x7 x8 x9 x10) (fun x => mkS [(0, .str x.1), (1, .int .i64 x.2.1), (6, .str x.2.2.1), (7, .bool x.2.2.2.1), (8, .int .i64 x.2.2.2.2.1), (9, .bool x.2.2.2.2.2.1), (10, .int .i64 x.2.2.2.2.2.2), (4, .optr 1004 0 0)] ([] ++ [1004]) [⟨27, 3, (.agg [(.bool false), .nil, .nil]), [(.agg [(.bool false), .nil, .nil])]⟩]) _ (fun ⟨_, _, _, _, _, _, _⟩ => rfl) (fun k hkl0 IH x => ?_) ((_, _, _, _, _, _, _)) ?_; obtain ⟨x0, x1, x6, x7, x8, x9, x10⟩ := x; simp only [steelyardlaw10_number.l0]; have IHl0 := Hid.mk IH; clear IH; refine sim_mk ?_)
    | (refine sJ (fun k => steelyardlaw10_number.j1 k _ _ _ _ _ _ _ _) rfl (fun k hk => ?_); simp only [steelyardlaw10_number.j1, reduceIte, Bool.false_eq_true, decide_eq_true_eq])
    | (refine sJ (fun k => steelyardlaw10_number.j2 k _ _ _ _ _ _ _ _) rfl (fun k hk => ?_); simp only [steelyardlaw10_number.j2, reduceIte, Bool.false_eq_true, decide_eq_true_eq])
    | (refine sJ (fun k => steelyardlaw10_number.j3 k _ _ _ _ _ _ _ _) rfl (fun k hk => ?_); simp only [steelyardlaw10_number.j3, reduceIte, Bool.false_eq_true, decide_eq_true_eq])
    | refine sF [] false
    | refine sFe [] false
    | fail)
   | ((with_reducible refine gO ?_); first
    | with_reducible exact simO_none
    | ((with_reducible refine oGb ?_); first | refine oTe (h := ?_) | refine oFd (h := ?_) | refine oTb (h := ?_) | refine oFb (h := ?_))
    | with_reducible refine oIn (fun hb => ?_) (fun hb => ?_)
    | with_reducible refine oBd (fun hb hc => ?_) (fun hb hc => ?_) (fun hb hc => ?_) (fun hb hc => ?_)
    | ((with_reducible refine oGb ?_); refine oIb (fun hb => ?_) (fun hb => ?_))
    | ((with_reducible refine oGi ?_); first | refine oT (h := ?_) | refine oF' (h := ?_) | refine oI (fun hb hc => ?_) (fun hb hc => ?_))
    | with_reducible refine simO_let ?_
    | refine simO_nil ?_
    | ((with_reducible refine gC ?_); first
     | refine oC true (hh := fun t ht => digits_Ten.holds _ _ t ht) (h := fun t => ?_)
     | refine oC false (hh := fun t ht => rat_Of.holds _ _ _ _ t ht) (h := fun t => ?_)
     | refine oC true (hh := fun t ht => digits_Parse.holds _ _ t ht) (h := fun t => ?_)
     | fail)
    | refine oV (h := ?_)
    | refine oVg (h := ?_)
    | refine oKg (h := ?_)
    | refine oKu (h := ?_)
    | refine oS (h := ?_)
    | refine oN (h := ?_)
    | refine oNg (h := ?_)
    | refine oA (h := ?_)
    | (refine oJ (fun k => steelyardlaw10_number.j1 k _ _ _ _ _ _ _ _) rfl (fun k hk => ?_); simp only [steelyardlaw10_number.j1, reduceIte, Bool.false_eq_true, decide_eq_true_eq])
    | (refine oJ (fun k => steelyardlaw10_number.j2 k _ _ _ _ _ _ _ _) rfl (fun k hk => ?_); simp only [steelyardlaw10_number.j2, reduceIte, Bool.false_eq_true, decide_eq_true_eq])
    | (refine oJ (fun k => steelyardlaw10_number.j3 k _ _ _ _ _ _ _ _) rfl (fun k hk => ?_); simp only [steelyardlaw10_number.j3, reduceIte, Bool.false_eq_true, decide_eq_true_eq])
    | fail)
   | ((with_reducible refine gL ?_); first
    | refine lC [] [4] [1004]
    | fail)
   | fail

theorem steelyardlaw10_below.holds {mx : Int} (k : Nat) (a0 : ByteArray) (a1 : ByteArray) (a2 : Int) (r : Bool) (h : steelyardlaw10_below.f k a0 a1 a2 = some r) : Holds Tryz.prog (G0 mx) 44 [] [.str a0, .str a1, .int .i64 a2] (.bool r) [] := by
  refine holds_of_sim (fun (r : Bool) => (.bool r, [])) h Tryz.func44 rfl (by kernel_rfl) 33 rfl (by simp) (by simp) [(0, .str a0), (1, .str a1), (2, .int .i64 a2)] rfl [] rfl [.tmp 6] rfl ?_
  clear h
  unfold steelyardlaw10_below.f
  refine sim_mk ?_
  repeat' first
   | ((with_reducible refine gS ?_); first
    | with_reducible refine sim_seq ?_
    | with_reducible refine sim_block ?_
    | with_reducible refine sim_skip ?_
    | with_reducible refine sim_inBlock ?_
    | with_reducible exact sim_none
    | refine sR (h := ?_)
    | refine sX (h := ?_)
    | refine sD (hm := by exact mixed) (h := ?_)
    | ((with_reducible refine sGb ?_); first | refine sTe (h := ?_) | refine sFd (h := ?_) | refine sTb (h := ?_) | refine sFb (h := ?_))
    | with_reducible refine sBd (fun hb hc => ?_) (fun hb hc => ?_) (fun hb hc => ?_) (fun hb hc => ?_)
    | ((with_reducible refine sGb ?_); refine sIb (fun hb => ?_) (fun hb => ?_))
    | ((with_reducible refine sGi ?_); first | refine sT (h := ?_) | refine sF' (h := ?_) | refine sI (fun hb hc => ?_) (fun hb hc => ?_))
    | with_reducible refine sim_let ?_
    | refine sY (h := ?_)
    | refine sN (h := ?_)
    | refine sF [] false
    | refine sFe [] false
    | fail)
   | ((with_reducible refine gO ?_); first
    | with_reducible exact simO_none
    | ((with_reducible refine oGb ?_); first | refine oTe (h := ?_) | refine oFd (h := ?_) | refine oTb (h := ?_) | refine oFb (h := ?_))
    | with_reducible refine oBd (fun hb hc => ?_) (fun hb hc => ?_) (fun hb hc => ?_) (fun hb hc => ?_)
    | ((with_reducible refine oGb ?_); refine oIb (fun hb => ?_) (fun hb => ?_))
    | ((with_reducible refine oGi ?_); first | refine oT (h := ?_) | refine oF' (h := ?_) | refine oI (fun hb hc => ?_) (fun hb hc => ?_))
    | with_reducible refine simO_let ?_
    | refine simO_nil ?_
    | ((with_reducible refine gC ?_); first
     | refine oCg true (hh := fun t ht => rat_Cmp.holds _ _ _ _ _ _ _ t ht) (h := fun t => ?_)
     | refine oC false (hh := fun t ht => steelyardlaw10_number.holds _ _ _ t ht) (h := fun t => ?_)
     | fail)
    | refine oV (h := ?_)
    | refine oVg (h := ?_)
    | refine oKg (h := ?_)
    | refine oKu (h := ?_)
    | refine oS (h := ?_)
    | refine oN (h := ?_)
    | refine oNg (h := ?_)
    | refine oA (h := ?_)
    | fail)
   | fail

end Go.Proofs.YtjgmmaeafodpmaaGreatDoor.P
