/- Contracts: each Go function of a package comes to its plain function. -/
import Derived.Test.YtjgmmaeafodpmaaGreatDoorMb
import Derived.Test.YtjgmmaeafodpmaaGreatDoorPxLDecimalOrder
import Derived.Test.YtjgmmaeafodpmaaGreatDoorHsteelyardref07
import Derived.Test.YtjgmmaeafodpmaaGreatDoorHsteelyardlaw10
import Derived.Test.YtjgmmaeafodpmaaGreatDoorHrat
import Derived.Test.YtjgmmaeafodpmaaGreatDoorHdecimal
set_option linter.unusedVariables false
set_option linter.unusedSimpArgs false
set_option maxRecDepth 100000
set_option maxHeartbeats 8000000
namespace Go.Proofs.YtjgmmaeafodpmaaGreatDoor.P
open Go Go.RowKit Go.Proofs.YtjgmmaeafodpmaaGreatDoor.Am Go.Proofs.YtjgmmaeafodpmaaGreatDoorW.PrintWords Go.Proofs.YtjgmmaeafodpmaaGreatDoorW.PrintMore
attribute [local irreducible] cpy rd bt strOfNums ByteArray.extract
theorem steelyardlaw10_DecimalOrder.holds {mx : Int} (k : Nat) (a0_0 : Bool) (l0_1 : List Int) (l0_2 : List Int) (a1_0 : Bool) (l1_1 : List Int) (l1_2 : List Int) (a2 : Int) (r : Bool) (h : steelyardlaw10_DecimalOrder.f k a0_0 l0_1 l0_2 a1_0 l1_1 l1_2 a2 = some r) : Holds Tryz.prog (G0 mx) 9 [] [.agg [.bool a0_0, .sl 1 (.int .u32 0) (l0_1.map (AV.int .u32)), .sl 1 (.int .u32 0) (l0_2.map (AV.int .u32))], .agg [.bool a1_0, .sl 1 (.int .u32 0) (l1_1.map (AV.int .u32)), .sl 1 (.int .u32 0) (l1_2.map (AV.int .u32))], .int .u8 a2] (.bool r) [] := by
  refine holds_of_sim (fun (r : Bool) => (.bool r, [])) h Tryz.func9 rfl (by kernel_rfl) 135 rfl (by simp) (by simp) [(0, .agg [.bool a0_0, .sl 1 (.int .u32 0) (l0_1.map (AV.int .u32)), .sl 1 (.int .u32 0) (l0_2.map (AV.int .u32))]), (1, .agg [.bool a1_0, .sl 1 (.int .u32 0) (l1_1.map (AV.int .u32)), .sl 1 (.int .u32 0) (l1_2.map (AV.int .u32))]), (2, .int .u8 a2)] rfl [] rfl [.tmp 6] rfl ?_
  clear h
  unfold steelyardlaw10_DecimalOrder.f
  refine sim_mk ?_
  repeat' first
   | ((with_reducible refine gS ?_); first
    | with_reducible refine sim_seq ?_
    | with_reducible refine sim_block ?_
    | with_reducible refine sim_skip ?_
    | with_reducible refine sim_inBlock ?_
    | with_reducible exact sim_none
    | refine sR (h := ?_)
    | refine sX (h := ?_)
    | refine sD (hm := by exact mixed) (h := ?_)
    | ((with_reducible refine sGb ?_); first | refine sTe (h := ?_) | refine sFd (h := ?_) | refine sTb (h := ?_) | refine sFb (h := ?_))
    | with_reducible refine sIn (fun hb => ?_) (fun hb => ?_)
    | with_reducible refine sBd (fun hb hc => ?_) (fun hb hc => ?_) (fun hb hc => ?_) (fun hb hc => ?_)
    | ((with_reducible refine sGb ?_); refine sIb (fun hb => ?_) (fun hb => ?_))
    | ((with_reducible refine sGi ?_); first | refine sT (h := ?_) | refine sF' (h := ?_) | refine sI (fun hb hc => ?_) (fun hb hc => ?_))
    | with_reducible refine sim_let ?_
    | refine sY (h := ?_)
    | refine sN (h := ?_)
    | (refine sJ (fun k => steelyardlaw10_DecimalOrder.j0 k _ _ _ _ _ _ _ _) rfl (fun k hk => ?_); simp only [steelyardlaw10_DecimalOrder.j0, reduceIte, Bool.false_eq_true, decide_eq_true_eq])
    | (refine sJ (fun k => steelyardlaw10_DecimalOrder.j1 k _ _ _ _ _ _ _) rfl (fun k hk => ?_); simp only [steelyardlaw10_DecimalOrder.j1, reduceIte, Bool.false_eq_true, decide_eq_true_eq])
    | (refine sJ (fun k => steelyardlaw10_DecimalOrder.j2 k _ _ _ _ _ _ _ _) rfl (fun k hk => ?_); simp only [steelyardlaw10_DecimalOrder.j2, reduceIte, Bool.false_eq_true, decide_eq_true_eq])
    | refine sF [] false
    | refine sFe [] false
    | fail)
   | ((with_reducible refine gO ?_); first
    | with_reducible exact simO_none
    | ((with_reducible refine oGb ?_); first | refine oTe (h := ?_) | refine oFd (h := ?_) | refine oTb (h := ?_) | refine oFb (h := ?_))
    | with_reducible refine oIn (fun hb => ?_) (fun hb => ?_)
    | with_reducible refine oBd (fun hb hc => ?_) (fun hb hc => ?_) (fun hb hc => ?_) (fun hb hc => ?_)
    | ((with_reducible refine oGb ?_); refine oIb (fun hb => ?_) (fun hb => ?_))
    | ((with_reducible refine oGi ?_); first | refine oT (h := ?_) | refine oF' (h := ?_) | refine oI (fun hb hc => ?_) (fun hb hc => ?_))
    | with_reducible refine simO_let ?_
    | refine simO_nil ?_
    | ((with_reducible refine gC ?_); first
     | refine oC true (hh := fun t ht => steelyardref07_Good.holds _ _ _ _ t ht) (h := fun t => ?_)
     | refine oCg true (hh := fun t ht => steelyardref07_Good.holds _ _ _ _ t ht) (h := fun t => ?_)
     | refine oC true (hh := fun t ht => rat_Cmp.holds _ _ _ _ _ _ _ t ht) (h := fun t => ?_)
     | refine oC true (hh := fun t ht => steelyardlaw10_wakes.holds _ t ht) (h := fun t => ?_)
     | refine oCg true (hh := fun t ht => steelyardlaw10_wakes.holds _ t ht) (h := fun t => ?_)
     | refine oC true (hh := fun t ht => decimal_Down.holds _ _ _ _ _ t ht) (h := fun t => ?_)
     | refine oC true (hh := fun t ht => decimal_Up.holds _ _ _ _ _ t ht) (h := fun t => ?_)
     | refine oC true (hh := fun t ht => decimal_Near.holds _ _ _ _ _ t ht) (h := fun t => ?_)
     | refine oC true (hh := fun t ht => steelyardlaw10_below.holds _ _ _ _ t ht) (h := fun t => ?_)
     | refine oCg true (hh := fun t ht => steelyardlaw10_below.holds _ _ _ _ t ht) (h := fun t => ?_)
     | fail)
    | refine oV (h := ?_)
    | refine oVg (h := ?_)
    | refine oKg (h := ?_)
    | refine oKu (h := ?_)
    | refine oS (h := ?_)
    | refine oN (h := ?_)
    | refine oNg (h := ?_)
    | refine oA (h := ?_)
    | (refine oJ (fun k => steelyardlaw10_DecimalOrder.j0 k _ _ _ _ _ _ _ _) rfl (fun k hk => ?_); simp only [steelyardlaw10_DecimalOrder.j0, reduceIte, Bool.false_eq_true, decide_eq_true_eq])
    | (refine oJ (fun k => steelyardlaw10_DecimalOrder.j1 k _ _ _ _ _ _ _) rfl (fun k hk => ?_); simp only [steelyardlaw10_DecimalOrder.j1, reduceIte, Bool.false_eq_true, decide_eq_true_eq])
    | (refine oJ (fun k => steelyardlaw10_DecimalOrder.j2 k _ _ _ _ _ _ _ _) rfl (fun k hk => ?_); simp only [steelyardlaw10_DecimalOrder.j2, reduceIte, Bool.false_eq_true, decide_eq_true_eq])
    | fail)
   | fail

end Go.Proofs.YtjgmmaeafodpmaaGreatDoor.P
