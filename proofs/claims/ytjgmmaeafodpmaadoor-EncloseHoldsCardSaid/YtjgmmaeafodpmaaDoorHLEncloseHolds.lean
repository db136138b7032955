/- Contracts: each Go function of a package comes to its plain function. -/
import Derived.Test.YtjgmmaeafodpmaaDoorMb
import Derived.Test.YtjgmmaeafodpmaaDoorPxLEncloseHolds
import Derived.Test.YtjgmmaeafodpmaaDoorHsteelyardref07
import Derived.Test.YtjgmmaeafodpmaaDoorHsteelyardlaw25
import Derived.Test.YtjgmmaeafodpmaaDoorHenclose
import Derived.Test.YtjgmmaeafodpmaaDoorHrat
import Derived.Test.YtjgmmaeafodpmaaDoorHsteelyardlaw07
set_option linter.unusedVariables false
set_option linter.unusedSimpArgs false
set_option maxRecDepth 100000
set_option maxHeartbeats 8000000
namespace Go.Proofs.YtjgmmaeafodpmaaDoor.P
open Go Go.RowKit Go.Proofs.YtjgmmaeafodpmaaDoor.Am Go.Proofs.YtjgmmaeafodpmaaDoorW.PrintWords Go.Proofs.YtjgmmaeafodpmaaDoorW.PrintMore
attribute [local irreducible] cpy rd bt strOfNums ByteArray.extract
theorem steelyardlaw25_EncloseHolds.holds (k : Nat) (a0_0 : Bool) (l0_1 : List Int) (l0_2 : List Int) (a1 : Int) (r : Bool) (h : steelyardlaw25_EncloseHolds.f k a0_0 l0_1 l0_2 a1 = some r) : Holds Tryd.prog (G0 0) 3 [] [.agg [.bool a0_0, .sl 1 (.int .u32 0) (l0_1.map (AV.int .u32)), .sl 1 (.int .u32 0) (l0_2.map (AV.int .u32))], .int .u8 a1] (.bool r) [] := by
  refine holds_of_sim (fun (r : Bool) => (.bool r, [])) h Tryd.func3 rfl (by kernel_rfl) 121 rfl (by simp) (by simp) [(0, .agg [.bool a0_0, .sl 1 (.int .u32 0) (l0_1.map (AV.int .u32)), .sl 1 (.int .u32 0) (l0_2.map (AV.int .u32))]), (1, .int .u8 a1)] rfl [] rfl [.tmp 4] rfl ?_
  clear h
  unfold steelyardlaw25_EncloseHolds.f
  refine sim_mk ?_
  repeat' first
   | ((with_reducible refine gS ?_); first
    | with_reducible refine sim_seq ?_
    | with_reducible refine sim_block ?_
    | with_reducible refine sim_skip ?_
    | with_reducible refine sim_inBlock ?_
    | with_reducible exact sim_none
    | refine sR (h := ?_)
    | refine sX (h := ?_)
    | refine sD (hm := by exact mixed) (h := ?_)
    | ((with_reducible refine sGb ?_); first | refine sTe (h := ?_) | refine sFd (h := ?_) | refine sTb (h := ?_) | refine sFb (h := ?_))
    | with_reducible refine sBd (fun hb hc => ?_) (fun hb hc => ?_) (fun hb hc => ?_) (fun hb hc => ?_)
    | ((with_reducible refine sGb ?_); refine sIb (fun hb => ?_) (fun hb => ?_))
    | ((with_reducible refine sGi ?_); first | refine sT (h := ?_) | refine sF' (h := ?_) | refine sI (fun hb hc => ?_) (fun hb hc => ?_))
    | with_reducible refine sim_let ?_
    | refine sY (h := ?_)
    | refine sN (h := ?_)
    | refine IHl0.out _ (_, _, _, _, _, _, _, _, _, _, _, _, _, _) _ (by omega) ?_
    | (refine sim_loop (fun k (x : Int × Int × Bool × List Int × List Int × Bool × List Int × List Int × Bool × List Int × List Int × Bool × List Int × List Int) => match x with | (x5, x10, x1149000, x1149001, x1149002, x1167000, x1167001, x1167002, x1168000, x1168001, x1168002, x1179000, x1179001, x1179002) => steelyardlaw25_EncloseHolds.l0 k x5 x10 x1149000 x1149001 x1149002 x1167000 x1167001 x1167002 x1168000 x1168001 x1168002 x1179000 x1179001 x1179002) (fun x => mkS [(2, .optr 1002 0 0), (6, .optr 1006 0 0), (7, .optr 1007 0 0), (9, .optr 1009 0 0), (5, .int .i64 x.1), (10, .int .i64 x.2.1)] ([] ++ [1002, 1006, 1007, 1009]) [⟨27, 3, (.agg [(.bool false), .nil, .nil]), [.agg [.bool x.2.2.1, .sl 1 (.int .u32 0) (x.2.2.2.1.map (AV.int .u32)), .sl 1 (.int .u32 0) (x.2.2.2.2.1.map (AV.int .u32))]]⟩, ⟨27, 3, (.agg [(.bool false), .nil, .nil]), [.agg [.bool x.2.2.2.2.2.1, .sl 1 (.int .u32 0) (x.2.2.2.2.2.2.1.map (AV.int .u32)), .sl 1 (.int .u32 0) (x.2.2.2.2.2.2.2.1.map (AV.int .u32))]]⟩, ⟨27, 3, (.agg [(.bool false), .nil, .nil]), [.agg [.bool x.2.2.2.2.2.2.2.2.1, .sl 1 (.int .u32 0) (x.2.2.2.2.2.2.2.2.2.1.map (AV.int .u32)), .sl 1 (.int .u32 0) (x.2.2.2.2.2.2.2.2.2.2.1.map (AV.int .u32))]]⟩, ⟨27, 3, (.agg [(.bool false), .nil, .nil]), [.agg [.bool x.2.2.2.2.2.2.2.2.2.2.2.1, .sl 1 (.int .u32 0) (x.2.2.2.2.2.2.2.2.2.2.2.2.1.map (AV.int .u32)), .sl 1 (.int .u32 0) (x.2.2.2.2.2.2.2.2.2.2.2.2.2.map (AV.int .u32))]]⟩]) _ (fun ⟨_, _, _, _, _, _, _, _, _, _, _, _, _, _⟩ => rfl) (fun k hkl0 IH x => ?_) ((_, _, _, _, _, _, _, _, _, _, _, _, _, _)) ?_; obtain ⟨x5, x10, x1149000, x1149001, x1149002, x1167000, x1167001, x1167002, x1168000, x1168001, x1168002, x1179000, x1179001, x1179002⟩ := x; simp only [steelyardlaw25_EncloseHolds.l0]; have IHl0 := Hid.mk IH; clear IH; refine sim_mk ?_)
    | (refine sJ (fun k => steelyardlaw25_EncloseHolds.j0 k _ _ _ _ _) rfl (fun k hk => ?_); simp only [steelyardlaw25_EncloseHolds.j0, reduceIte, Bool.false_eq_true, decide_eq_true_eq])
    | (refine sJ (fun k => steelyardlaw25_EncloseHolds.j1 k _ _ _ _ _ _ _ _ _ _ _) rfl (fun k hk => ?_); simp only [steelyardlaw25_EncloseHolds.j1, reduceIte, Bool.false_eq_true, decide_eq_true_eq])
    | (refine sJ (fun k => steelyardlaw25_EncloseHolds.j3 k _ _ _ _ _ _ _ _ _ _ _ _ _) rfl (fun k hk => ?_); simp only [steelyardlaw25_EncloseHolds.j3, reduceIte, Bool.false_eq_true, decide_eq_true_eq])
    | refine sF [] false
    | refine sFe [] false
    | fail)
   | ((with_reducible refine gO ?_); first
    | with_reducible exact simO_none
    | ((with_reducible refine oGb ?_); first | refine oTe (h := ?_) | refine oFd (h := ?_) | refine oTb (h := ?_) | refine oFb (h := ?_))
    | with_reducible refine oBd (fun hb hc => ?_) (fun hb hc => ?_) (fun hb hc => ?_) (fun hb hc => ?_)
    | ((with_reducible refine oGb ?_); refine oIb (fun hb => ?_) (fun hb => ?_))
    | ((with_reducible refine oGi ?_); first | refine oT (h := ?_) | refine oF' (h := ?_) | refine oI (fun hb hc => ?_) (fun hb hc => ?_))
    | with_reducible refine simO_let ?_
    | refine simO_nil ?_
    | ((with_reducible refine gC ?_); first
     | refine oC true (hh := fun t ht => steelyardref07_Good.holds _ _ _ _ t ht) (h := fun t => ?_)
     | refine oC true (hh := fun t ht => steelyardlaw25_wakes.holds _ t ht) (h := fun t => ?_)
     | refine oCg true (hh := fun t ht => steelyardlaw25_wakes.holds _ t ht) (h := fun t => ?_)
     | refine oC false (hh := fun t ht => enclose_Root.holds _ _ _ _ _ t ht) (h := fun t => ?_)
     | refine oC true (hh := fun t ht => rat_Sign.holds _ _ _ _ t ht) (h := fun t => ?_)
     | refine oCg true (hh := fun t ht => rat_Sign.holds _ _ _ _ t ht) (h := fun t => ?_)
     | refine oC false (hh := fun t ht => steelyardlaw07_By.holds _ _ _ t ht) (h := fun t => ?_)
     | refine oC false (hh := fun t ht => steelyardref07_Times.holds _ _ _ _ _ _ _ t ht) (h := fun t => ?_)
     | refine oCg false (hh := fun t ht => steelyardref07_Times.holds _ _ _ _ _ _ _ t ht) (h := fun t => ?_)
     | refine oC false (hh := fun t ht => steelyardref07_Plus.holds _ _ _ _ _ _ _ t ht) (h := fun t => ?_)
     | refine oC false (hh := fun t ht => steelyardref07_Neg.holds _ _ _ _ t ht) (h := fun t => ?_)
     | refine oC true (hh := fun t ht => steelyardref07_Less.holds _ _ _ _ _ _ _ t ht) (h := fun t => ?_)
     | refine oCg true (hh := fun t ht => steelyardref07_Less.holds _ _ _ _ _ _ _ t ht) (h := fun t => ?_)
     | fail)
    | refine oV (h := ?_)
    | refine oVg (h := ?_)
    | refine oKg (h := ?_)
    | refine oKu (h := ?_)
    | refine oS (h := ?_)
    | refine oN (h := ?_)
    | refine oNg (h := ?_)
    | refine oA (h := ?_)
    | (refine oJ (fun k => steelyardlaw25_EncloseHolds.j0 k _ _ _ _ _) rfl (fun k hk => ?_); simp only [steelyardlaw25_EncloseHolds.j0, reduceIte, Bool.false_eq_true, decide_eq_true_eq])
    | (refine oJ (fun k => steelyardlaw25_EncloseHolds.j1 k _ _ _ _ _ _ _ _ _ _ _) rfl (fun k hk => ?_); simp only [steelyardlaw25_EncloseHolds.j1, reduceIte, Bool.false_eq_true, decide_eq_true_eq])
    | (refine oJ (fun k => steelyardlaw25_EncloseHolds.j3 k _ _ _ _ _ _ _ _ _ _ _ _ _) rfl (fun k hk => ?_); simp only [steelyardlaw25_EncloseHolds.j3, reduceIte, Bool.false_eq_true, decide_eq_true_eq])
    | fail)
   | ((with_reducible refine gL ?_); first
    | refine lC [] [2, 6, 7, 9] [1002, 1006, 1007, 1009]
    | fail)
   | fail

end Go.Proofs.YtjgmmaeafodpmaaDoor.P
