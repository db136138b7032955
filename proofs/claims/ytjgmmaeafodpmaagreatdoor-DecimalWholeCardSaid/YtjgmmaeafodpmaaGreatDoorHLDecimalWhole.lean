/- Contracts: each Go function of a package comes to its plain function. -/
import Derived.Test.YtjgmmaeafodpmaaGreatDoorMb
import Derived.Test.YtjgmmaeafodpmaaGreatDoorPxLDecimalWhole
import Derived.Test.YtjgmmaeafodpmaaGreatDoorHsteelyardref07
import Derived.Test.YtjgmmaeafodpmaaGreatDoorHsteelyardlaw10
import Derived.Test.YtjgmmaeafodpmaaGreatDoorHwhole
import Derived.Test.YtjgmmaeafodpmaaGreatDoorHrat
import Derived.Test.YtjgmmaeafodpmaaGreatDoorHdecimal
set_option linter.unusedVariables false
set_option linter.unusedSimpArgs false
set_option maxRecDepth 100000
set_option maxHeartbeats 8000000
namespace Go.Proofs.YtjgmmaeafodpmaaGreatDoor.P
open Go Go.RowKit Go.Proofs.YtjgmmaeafodpmaaGreatDoor.Am Go.Proofs.YtjgmmaeafodpmaaGreatDoorW.PrintWords Go.Proofs.YtjgmmaeafodpmaaGreatDoorW.PrintMore
attribute [local irreducible] cpy rd bt strOfNums ByteArray.extract
theorem steelyardlaw10_DecimalWhole.holds {mx : Int} (k : Nat) (a0 : Int) (a1_0 : Bool) (l1_1 : List Int) (l1_2 : List Int) (a2 : Int) (r : Bool) (h : steelyardlaw10_DecimalWhole.f k a0 a1_0 l1_1 l1_2 a2 = some r) : Holds Tryz.prog (G0 mx) 8 [] [.int .i32 a0, .agg [.bool a1_0, .sl 1 (.int .u32 0) (l1_1.map (AV.int .u32)), .sl 1 (.int .u32 0) (l1_2.map (AV.int .u32))], .int .u8 a2] (.bool r) [] := by
  refine holds_of_sim (fun (r : Bool) => (.bool r, [])) h Tryz.func8 rfl (by kernel_rfl) 134 rfl (by simp) (by simp) [(0, .int .i32 a0), (1, .agg [.bool a1_0, .sl 1 (.int .u32 0) (l1_1.map (AV.int .u32)), .sl 1 (.int .u32 0) (l1_2.map (AV.int .u32))]), (2, .int .u8 a2)] rfl [] rfl [.tmp 6] rfl ?_
  clear h
  unfold steelyardlaw10_DecimalWhole.f
  refine sim_mk ?_
  repeat' first
   | ((with_reducible refine gS ?_); first
    | with_reducible refine sim_seq ?_
    | with_reducible refine sim_block ?_
    | with_reducible refine sim_skip ?_
    | with_reducible refine sim_inBlock ?_
    | with_reducible exact sim_none
    | refine sR (h := ?_)
    | refine sX (h := ?_)
    | refine sD (hm := by exact mixed) (h := ?_)
    | ((with_reducible refine sGb ?_); first | refine sTe (h := ?_) | refine sFd (h := ?_) | refine sTb (h := ?_) | refine sFb (h := ?_))
    | with_reducible refine sIn (fun hb => ?_) (fun hb => ?_)
    | with_reducible refine sBd (fun hb hc => ?_) (fun hb hc => ?_) (fun hb hc => ?_) (fun hb hc => ?_)
    | ((with_reducible refine sGb ?_); refine sIb (fun hb => ?_) (fun hb => ?_))
    | ((with_reducible refine sGi ?_); first | refine sT (h := ?_) | refine sF' (h := ?_) | refine sI (fun hb hc => ?_) (fun hb hc => ?_))
    | with_reducible refine sim_let ?_
    | refine sY (h := ?_)
    | refine sN (h := ?_)
    | refine IHl0.out _ (_, _, _, _, _, _, _) _ (by omega) ?_
    | (refine sim_loop (fun k (x : Int × Int × ByteArray × Int × Bool × List Int × List Int) => match x with | (x0, x7, x8, x9, x2041000, x2041001, x2041002) => steelyardlaw10_DecimalWhole.l0 k x0 x7 x8 x9 x2041000 x2041001 x2041002) (fun x => mkS [(4, .optr 1004 0 0), (0, .int .i32 x.1), (7, .int .i64 x.2.1), (8, .str x.2.2.1), (9, .int .i64 x.2.2.2.1)] ([] ++ [1004]) [⟨27, 3, (.agg [(.bool false), .nil, .nil]), [.agg [.bool x.2.2.2.2.1, .sl 1 (.int .u32 0) (x.2.2.2.2.2.1.map (AV.int .u32)), .sl 1 (.int .u32 0) (x.2.2.2.2.2.2.map (AV.int .u32))]]⟩]) _ (fun ⟨_, _, _, _, _, _, _⟩ => rfl) (fun k hkl0 IH x => ?_) ((_, _, _, _, _, _, _)) ?_; obtain ⟨x0, x7, x8, x9, x2041000, x2041001, x2041002⟩ := x; simp only [steelyardlaw10_DecimalWhole.l0]; have IHl0 := Hid.mk IH; clear IH; refine sim_mk ?_)
    | (refine sJ (fun k => steelyardlaw10_DecimalWhole.j0 k _ _ _ _ _ _) rfl (fun k hk => ?_); simp only [steelyardlaw10_DecimalWhole.j0, reduceIte, Bool.false_eq_true, decide_eq_true_eq])
    | (refine sJ (fun k => steelyardlaw10_DecimalWhole.j2 k _ _ _ _ _ _) rfl (fun k hk => ?_); simp only [steelyardlaw10_DecimalWhole.j2, reduceIte, Bool.false_eq_true, decide_eq_true_eq])
    | (refine sJ (fun k => steelyardlaw10_DecimalWhole.j3 k _ _ _ _ _) rfl (fun k hk => ?_); simp only [steelyardlaw10_DecimalWhole.j3, reduceIte, Bool.false_eq_true, decide_eq_true_eq])
    | (refine sJ (fun k => steelyardlaw10_DecimalWhole.j4 k _ _ _ _ _) rfl (fun k hk => ?_); simp only [steelyardlaw10_DecimalWhole.j4, reduceIte, Bool.false_eq_true, decide_eq_true_eq])
    | refine sF [] false
    | refine sFe [] false
    | fail)
   | ((with_reducible refine gO ?_); first
    | with_reducible exact simO_none
    | ((with_reducible refine oGb ?_); first | refine oTe (h := ?_) | refine oFd (h := ?_) | refine oTb (h := ?_) | refine oFb (h := ?_))
    | with_reducible refine oIn (fun hb => ?_) (fun hb => ?_)
    | with_reducible refine oBd (fun hb hc => ?_) (fun hb hc => ?_) (fun hb hc => ?_) (fun hb hc => ?_)
    | ((with_reducible refine oGb ?_); refine oIb (fun hb => ?_) (fun hb => ?_))
    | ((with_reducible refine oGi ?_); first | refine oT (h := ?_) | refine oF' (h := ?_) | refine oI (fun hb hc => ?_) (fun hb hc => ?_))
    | with_reducible refine simO_let ?_
    | refine simO_nil ?_
    | ((with_reducible refine gC ?_); first
     | refine oC true (hh := fun t ht => steelyardref07_Good.holds _ _ _ _ t ht) (h := fun t => ?_)
     | refine oC true (hh := fun t ht => steelyardlaw10_wakes.holds _ t ht) (h := fun t => ?_)
     | refine oCg true (hh := fun t ht => steelyardlaw10_wakes.holds _ t ht) (h := fun t => ?_)
     | refine oC true (hh := fun t ht => decimal_Down.holds _ _ _ _ _ t ht) (h := fun t => ?_)
     | refine oC true (hh := fun t ht => decimal_Up.holds _ _ _ _ _ t ht) (h := fun t => ?_)
     | refine oC true (hh := fun t ht => whole_Text.holds _ _ _ t ht) (h := fun t => ?_)
     | refine oC false (hh := fun t ht => whole_Of.holds _ _ t ht) (h := fun t => ?_)
     | refine oC false (hh := fun t ht => rat_Whole.holds _ _ t ht) (h := fun t => ?_)
     | refine oC true (hh := fun t ht => rat_Sign.holds _ _ _ _ t ht) (h := fun t => ?_)
     | fail)
    | refine oV (h := ?_)
    | refine oVg (h := ?_)
    | refine oKg (h := ?_)
    | refine oKu (h := ?_)
    | refine oS (h := ?_)
    | refine oN (h := ?_)
    | refine oNg (h := ?_)
    | refine oA (h := ?_)
    | (refine oJ (fun k => steelyardlaw10_DecimalWhole.j0 k _ _ _ _ _ _) rfl (fun k hk => ?_); simp only [steelyardlaw10_DecimalWhole.j0, reduceIte, Bool.false_eq_true, decide_eq_true_eq])
    | (refine oJ (fun k => steelyardlaw10_DecimalWhole.j2 k _ _ _ _ _ _) rfl (fun k hk => ?_); simp only [steelyardlaw10_DecimalWhole.j2, reduceIte, Bool.false_eq_true, decide_eq_true_eq])
    | (refine oJ (fun k => steelyardlaw10_DecimalWhole.j3 k _ _ _ _ _) rfl (fun k hk => ?_); simp only [steelyardlaw10_DecimalWhole.j3, reduceIte, Bool.false_eq_true, decide_eq_true_eq])
    | (refine oJ (fun k => steelyardlaw10_DecimalWhole.j4 k _ _ _ _ _) rfl (fun k hk => ?_); simp only [steelyardlaw10_DecimalWhole.j4, reduceIte, Bool.false_eq_true, decide_eq_true_eq])
    | fail)
   | ((with_reducible refine gL ?_); first
    | refine lC [] [4] [1004]
    | fail)
   | fail

end Go.Proofs.YtjgmmaeafodpmaaGreatDoor.P
