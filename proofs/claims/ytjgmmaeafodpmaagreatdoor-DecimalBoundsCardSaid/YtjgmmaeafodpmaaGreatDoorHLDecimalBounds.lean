/- Contracts: each Go function of a package comes to its plain function. -/
import Derived.Test.YtjgmmaeafodpmaaGreatDoorMb
import Derived.Test.YtjgmmaeafodpmaaGreatDoorPxLDecimalBounds
import Derived.Test.YtjgmmaeafodpmaaGreatDoorHsteelyardref07
import Derived.Test.YtjgmmaeafodpmaaGreatDoorHsteelyardlaw10
import Derived.Test.YtjgmmaeafodpmaaGreatDoorHdecimal
import Derived.Test.YtjgmmaeafodpmaaGreatDoorHrat
import Derived.Test.YtjgmmaeafodpmaaGreatDoorHdigits
import Derived.Test.YtjgmmaeafodpmaaGreatDoorHwhole
import Derived.Test.YtjgmmaeafodpmaaGreatDoorHsteelyardkeep
set_option linter.unusedVariables false
set_option linter.unusedSimpArgs false
set_option maxRecDepth 100000
set_option maxHeartbeats 8000000
namespace Go.Proofs.YtjgmmaeafodpmaaGreatDoor.P
open Go Go.RowKit Go.Proofs.YtjgmmaeafodpmaaGreatDoor.Am Go.Proofs.YtjgmmaeafodpmaaGreatDoorW.PrintWords Go.Proofs.YtjgmmaeafodpmaaGreatDoorW.PrintMore
attribute [local irreducible] cpy rd bt strOfNums ByteArray.extract
theorem steelyardlaw10_DecimalBounds.sim_cut {R T : Type} {M : Pm} {J : R → AV × List Row} {todo : List Item} {s : St} (L : Nat → T → Option R) (inv : T → St) (K : Nat) (x : T) (h : ∀ x, Sim M J (L K x) todo (inv x)) (hl : LeM M s (inv x)) : Sim M J (L K x) todo s := (h x).le hl
theorem steelyardlaw10_DecimalBounds.holds {mx : Int} (k : Nat) (a0_0 : Bool) (l0_1 : List Int) (l0_2 : List Int) (a1 : Int) (r : Bool) (h : steelyardlaw10_DecimalBounds.f k a0_0 l0_1 l0_2 a1 = some r) : Holds Tryz.prog (G0 mx) 10 [] [.agg [.bool a0_0, .sl 1 (.int .u32 0) (l0_1.map (AV.int .u32)), .sl 1 (.int .u32 0) (l0_2.map (AV.int .u32))], .int .u8 a1] (.bool r) [] := by
  refine holds_of_sim (fun (r : Bool) => (.bool r, [])) h Tryz.func10 rfl (by kernel_rfl) 208 rfl (by simp) (by simp) [(0, .agg [.bool a0_0, .sl 1 (.int .u32 0) (l0_1.map (AV.int .u32)), .sl 1 (.int .u32 0) (l0_2.map (AV.int .u32))]), (1, .int .u8 a1)] rfl [] rfl [.tmp 4] rfl ?_
  clear h
  unfold steelyardlaw10_DecimalBounds.f
  refine sim_mk ?_
  repeat' first
   | ((with_reducible refine gS ?_); first
    | with_reducible refine sim_seq ?_
    | with_reducible refine sim_block ?_
    | with_reducible refine sim_skip ?_
    | with_reducible refine sim_inBlock ?_
    | with_reducible exact sim_none
    | refine sR (h := ?_)
    | refine sX (h := ?_)
    | refine sD (hm := by exact mixed) (h := ?_)
    | ((with_reducible refine sGb ?_); first | refine sTe (h := ?_) | refine sFd (h := ?_) | refine sTb (h := ?_) | refine sFb (h := ?_))
    | with_reducible refine sIn (fun hb => ?_) (fun hb => ?_)
    | with_reducible refine sBd (fun hb hc => ?_) (fun hb hc => ?_) (fun hb hc => ?_) (fun hb hc => ?_)
    | ((with_reducible refine sGb ?_); refine sIb (fun hb => ?_) (fun hb => ?_))
    | ((with_reducible refine sGi ?_); first | refine sT (h := ?_) | refine sF' (h := ?_) | refine sI (fun hb hc => ?_) (fun hb hc => ?_))
    | with_reducible refine sim_let ?_
    | refine sY (h := ?_)
    | refine sN (h := ?_)
    | (refine sJ (fun k => steelyardlaw10_DecimalBounds.j0 k _ _ _ _ _) rfl (fun k hk => ?_); simp only [steelyardlaw10_DecimalBounds.j0, reduceIte, Bool.false_eq_true, decide_eq_true_eq])
    | (refine steelyardlaw10_DecimalBounds.sim_cut (fun k (x : Int × ByteArray × ByteArray × ByteArray × Bool × Bool × List Int × List Int) => match x with | (x5, x6, x8, x10, x75, x2161000, x2161001, x2161002) => steelyardlaw10_DecimalBounds.j1 k x5 x6 x8 x10 x75 x2161000 x2161001 x2161002) (fun x => mkS [(2, .optr 1002 0 0), (5, .int .i64 x.1), (6, .str x.2.1), (8, .str x.2.2.1), (10, .str x.2.2.2.1), (75, .bool x.2.2.2.2.1)] ([] ++ [1002]) [⟨27, 3, (.agg [(.bool false), .nil, .nil]), [.agg [.bool x.2.2.2.2.2.1, .sl 1 (.int .u32 0) (x.2.2.2.2.2.2.1.map (AV.int .u32)), .sl 1 (.int .u32 0) (x.2.2.2.2.2.2.2.map (AV.int .u32))]]⟩]) _ (_, _, _, _, _, _, _, _) (fun x => ?_) ?_; obtain ⟨x5, x6, x8, x10, x75, x2161000, x2161001, x2161002⟩ := x; refine sJ (fun k => steelyardlaw10_DecimalBounds.j1 k _ _ _ _ _ _ _ _) rfl (fun k hk => ?_); simp only [steelyardlaw10_DecimalBounds.j1, reduceIte, Bool.false_eq_true, decide_eq_true_eq]; refine sim_mk ?_)
    | (refine sJ (fun k => steelyardlaw10_DecimalBounds.j1 k _ _ _ _ _ _ _ _) rfl (fun k hk => ?_); simp only [steelyardlaw10_DecimalBounds.j1, reduceIte, Bool.false_eq_true, decide_eq_true_eq])
    | (refine steelyardlaw10_DecimalBounds.sim_cut (fun k (x : Int × ByteArray × ByteArray × ByteArray × Bool × Bool × List Int × List Int × Bool × List Int × List Int × Bool × List Int × List Int × Bool × List Int × List Int) => match x with | (x5, x6, x8, x10, x103, x2161000, x2161001, x2161002, x2178000, x2178001, x2178002, x2187000, x2187001, x2187002, x2196000, x2196001, x2196002) => steelyardlaw10_DecimalBounds.j2 k x5 x6 x8 x10 x103 x2161000 x2161001 x2161002 x2178000 x2178001 x2178002 x2187000 x2187001 x2187002 x2196000 x2196001 x2196002) (fun x => mkS [(2, .optr 1002 0 0), (12, .optr 1012 0 0), (14, .optr 1014 0 0), (16, .optr 1016 0 0), (5, .int .i64 x.1), (6, .str x.2.1), (8, .str x.2.2.1), (10, .str x.2.2.2.1), (103, .bool x.2.2.2.2.1)] ([] ++ [1002, 1012, 1014, 1016]) [⟨27, 3, (.agg [(.bool false), .nil, .nil]), [.agg [.bool x.2.2.2.2.2.1, .sl 1 (.int .u32 0) (x.2.2.2.2.2.2.1.map (AV.int .u32)), .sl 1 (.int .u32 0) (x.2.2.2.2.2.2.2.1.map (AV.int .u32))]]⟩, ⟨27, 3, (.agg [(.bool false), .nil, .nil]), [.agg [.bool x.2.2.2.2.2.2.2.2.1, .sl 1 (.int .u32 0) (x.2.2.2.2.2.2.2.2.2.1.map (AV.int .u32)), .sl 1 (.int .u32 0) (x.2.2.2.2.2.2.2.2.2.2.1.map (AV.int .u32))]]⟩, ⟨27, 3, (.agg [(.bool false), .nil, .nil]), [.agg [.bool x.2.2.2.2.2.2.2.2.2.2.2.1, .sl 1 (.int .u32 0) (x.2.2.2.2.2.2.2.2.2.2.2.2.1.map (AV.int .u32)), .sl 1 (.int .u32 0) (x.2.2.2.2.2.2.2.2.2.2.2.2.2.1.map (AV.int .u32))]]⟩, ⟨27, 3, (.agg [(.bool false), .nil, .nil]), [.agg [.bool x.2.2.2.2.2.2.2.2.2.2.2.2.2.2.1, .sl 1 (.int .u32 0) (x.2.2.2.2.2.2.2.2.2.2.2.2.2.2.2.1.map (AV.int .u32)), .sl 1 (.int .u32 0) (x.2.2.2.2.2.2.2.2.2.2.2.2.2.2.2.2.map (AV.int .u32))]]⟩]) _ (_, _, _, _, _, _, _, _, _, _, _, _, _, _, _, _, _) (fun x => ?_) ?_; obtain ⟨x5, x6, x8, x10, x103, x2161000, x2161001, x2161002, x2178000, x2178001, x2178002, x2187000, x2187001, x2187002, x2196000, x2196001, x2196002⟩ := x; refine sJ (fun k => steelyardlaw10_DecimalBounds.j2 k _ _ _ _ _ _ _ _ _ _ _ _ _ _ _ _ _) rfl (fun k hk => ?_); simp only [steelyardlaw10_DecimalBounds.j2, reduceIte, Bool.false_eq_true, decide_eq_true_eq]; refine sim_mk ?_)
    | (refine sJ (fun k => steelyardlaw10_DecimalBounds.j2 k _ _ _ _ _ _ _ _ _ _ _ _ _ _ _ _ _) rfl (fun k hk => ?_); simp only [steelyardlaw10_DecimalBounds.j2, reduceIte, Bool.false_eq_true, decide_eq_true_eq])
    | (refine steelyardlaw10_DecimalBounds.sim_cut (fun k (x : Bool × Bool × List Int × List Int × Bool × List Int × List Int × Bool × List Int × List Int) => match x with | (x173, x2161000, x2161001, x2161002, x2196000, x2196001, x2196002, x2222000, x2222001, x2222002) => steelyardlaw10_DecimalBounds.j3 k x173 x2161000 x2161001 x2161002 x2196000 x2196001 x2196002 x2222000 x2222001 x2222002) (fun x => mkS [(2, .optr 1002 0 0), (16, .optr 1016 0 0), (22, .optr 1022 0 0), (173, .bool x.1)] ([] ++ [1002, 1016, 1022]) [⟨27, 3, (.agg [(.bool false), .nil, .nil]), [.agg [.bool x.2.1, .sl 1 (.int .u32 0) (x.2.2.1.map (AV.int .u32)), .sl 1 (.int .u32 0) (x.2.2.2.1.map (AV.int .u32))]]⟩, ⟨27, 3, (.agg [(.bool false), .nil, .nil]), [.agg [.bool x.2.2.2.2.1, .sl 1 (.int .u32 0) (x.2.2.2.2.2.1.map (AV.int .u32)), .sl 1 (.int .u32 0) (x.2.2.2.2.2.2.1.map (AV.int .u32))]]⟩, ⟨27, 3, (.agg [(.bool false), .nil, .nil]), [.agg [.bool x.2.2.2.2.2.2.2.1, .sl 1 (.int .u32 0) (x.2.2.2.2.2.2.2.2.1.map (AV.int .u32)), .sl 1 (.int .u32 0) (x.2.2.2.2.2.2.2.2.2.map (AV.int .u32))]]⟩]) _ (_, _, _, _, _, _, _, _, _, _) (fun x => ?_) ?_; obtain ⟨x173, x2161000, x2161001, x2161002, x2196000, x2196001, x2196002, x2222000, x2222001, x2222002⟩ := x; refine sJ (fun k => steelyardlaw10_DecimalBounds.j3 k _ _ _ _ _ _ _ _ _ _) rfl (fun k hk => ?_); simp only [steelyardlaw10_DecimalBounds.j3, reduceIte, Bool.false_eq_true, decide_eq_true_eq]; refine sim_mk ?_)
    | (refine sJ (fun k => steelyardlaw10_DecimalBounds.j3 k _ _ _ _ _ _ _ _ _ _) rfl (fun k hk => ?_); simp only [steelyardlaw10_DecimalBounds.j3, reduceIte, Bool.false_eq_true, decide_eq_true_eq])
    | refine sF [] false
    | refine sFe [] false
    | fail)
   | ((with_reducible refine gO ?_); first
    | with_reducible exact simO_none
    | ((with_reducible refine oGb ?_); first | refine oTe (h := ?_) | refine oFd (h := ?_) | refine oTb (h := ?_) | refine oFb (h := ?_))
    | with_reducible refine oIn (fun hb => ?_) (fun hb => ?_)
    | with_reducible refine oBd (fun hb hc => ?_) (fun hb hc => ?_) (fun hb hc => ?_) (fun hb hc => ?_)
    | ((with_reducible refine oGb ?_); refine oIb (fun hb => ?_) (fun hb => ?_))
    | ((with_reducible refine oGi ?_); first | refine oT (h := ?_) | refine oF' (h := ?_) | refine oI (fun hb hc => ?_) (fun hb hc => ?_))
    | with_reducible refine simO_let ?_
    | refine simO_nil ?_
    | ((with_reducible refine gC ?_); first
     | refine oCg true (hh := fun t ht => steelyardkeep_Rat.holds _ _ _ _ _ _ _ t ht) (h := fun t => ?_)
     | refine oC true (hh := fun t ht => steelyardref07_Good.holds _ _ _ _ t ht) (h := fun t => ?_)
     | refine oCg true (hh := fun t ht => rat_Cmp.holds _ _ _ _ _ _ _ t ht) (h := fun t => ?_)
     | refine oC true (hh := fun t ht => steelyardlaw10_wakes.holds _ t ht) (h := fun t => ?_)
     | refine oCg true (hh := fun t ht => steelyardlaw10_wakes.holds _ t ht) (h := fun t => ?_)
     | refine oC true (hh := fun t ht => decimal_Down.holds _ _ _ _ _ t ht) (h := fun t => ?_)
     | refine oC true (hh := fun t ht => decimal_Up.holds _ _ _ _ _ t ht) (h := fun t => ?_)
     | refine oC true (hh := fun t ht => decimal_Near.holds _ _ _ _ _ t ht) (h := fun t => ?_)
     | refine oCg false (hh := fun t ht => rat_Neg.holds _ _ _ _ t ht) (h := fun t => ?_)
     | refine oC false (hh := fun t ht => steelyardlaw10_number.holds _ _ _ t ht) (h := fun t => ?_)
     | refine oC false (hh := fun t ht => whole_Of.holds _ _ t ht) (h := fun t => ?_)
     | refine oCg true (hh := fun t ht => rat_Sign.holds _ _ _ _ t ht) (h := fun t => ?_)
     | refine oC false (hh := fun t ht => rat_Sub.holds _ _ _ _ _ _ _ t ht) (h := fun t => ?_)
     | refine oC true (hh := fun t ht => digits_Ten.holds _ _ t ht) (h := fun t => ?_)
     | refine oC false (hh := fun t ht => rat_Of.holds _ _ _ _ t ht) (h := fun t => ?_)
     | refine oC false (hh := fun t ht => rat_Add.holds _ _ _ _ _ _ _ t ht) (h := fun t => ?_)
     | fail)
    | refine oV (h := ?_)
    | refine oVg (h := ?_)
    | refine oKg (h := ?_)
    | refine oKu (h := ?_)
    | refine oS (h := ?_)
    | refine oN (h := ?_)
    | refine oNg (h := ?_)
    | refine oA (h := ?_)
    | (refine oJ (fun k => steelyardlaw10_DecimalBounds.j0 k _ _ _ _ _) rfl (fun k hk => ?_); simp only [steelyardlaw10_DecimalBounds.j0, reduceIte, Bool.false_eq_true, decide_eq_true_eq])
    | (refine oJ (fun k => steelyardlaw10_DecimalBounds.j1 k _ _ _ _ _ _ _ _) rfl (fun k hk => ?_); simp only [steelyardlaw10_DecimalBounds.j1, reduceIte, Bool.false_eq_true, decide_eq_true_eq])
    | (refine oJ (fun k => steelyardlaw10_DecimalBounds.j2 k _ _ _ _ _ _ _ _ _ _ _ _ _ _ _ _ _) rfl (fun k hk => ?_); simp only [steelyardlaw10_DecimalBounds.j2, reduceIte, Bool.false_eq_true, decide_eq_true_eq])
    | (refine oJ (fun k => steelyardlaw10_DecimalBounds.j3 k _ _ _ _ _ _ _ _ _ _) rfl (fun k hk => ?_); simp only [steelyardlaw10_DecimalBounds.j3, reduceIte, Bool.false_eq_true, decide_eq_true_eq])
    | fail)
   | ((with_reducible refine gL ?_); first
    | refine lC [] [2] [1002]
    | refine lC [] [2, 12, 14, 16] [1002, 1012, 1014, 1016]
    | refine lC [] [2, 16, 22] [1002, 1016, 1022]
    | fail)
   | fail

end Go.Proofs.YtjgmmaeafodpmaaGreatDoor.P
