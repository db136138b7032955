/- Contracts: each Go function of a package comes to its plain function. -/
import Derived.Test.YtjgmmaeafodpmaaGreatDoorMb
import Derived.Test.YtjgmmaeafodpmaaGreatDoorMx
set_option linter.unusedVariables false
set_option linter.unusedSimpArgs false
set_option maxRecDepth 100000
set_option maxHeartbeats 8000000
namespace Go.Proofs.YtjgmmaeafodpmaaGreatDoor.P
open Go Go.RowKit Go.Proofs.YtjgmmaeafodpmaaGreatDoor.Am Go.Proofs.YtjgmmaeafodpmaaGreatDoorW.PrintWords Go.Proofs.YtjgmmaeafodpmaaGreatDoorW.PrintMore
attribute [local irreducible] cpy rd bt strOfNums ByteArray.extract
theorem steelyardkeep_Nat.holds {mx : Int} (k : Nat) (l0 : List Int) (l1 : List Int) (r : Bool) (h : steelyardkeep_Nat.f k l0 l1 = some r) : Holds Tryz.prog (G0 mx) 66 [] [.sl 1 (.int .u32 0) (l0.map (AV.int .u32)), .sl 1 (.int .u32 0) (l1.map (AV.int .u32))] (.bool r) [] := by
  refine holds_of_sim (fun (r : Bool) => (.bool r, [])) h Tryz.func66 rfl (by kernel_rfl) 26 rfl (by simp) (by simp) [(0, .sl 1 (.int .u32 0) (l0.map (AV.int .u32))), (1, .sl 1 (.int .u32 0) (l1.map (AV.int .u32)))] rfl [] rfl [.tmp 4] rfl ?_
  clear h
  unfold steelyardkeep_Nat.f
  refine sim_mk ?_
  repeat' first
   | ((with_reducible refine gS ?_); first
    | with_reducible refine sim_seq ?_
    | with_reducible refine sim_block ?_
    | with_reducible refine sim_skip ?_
    | with_reducible refine sim_inBlock ?_
    | with_reducible exact sim_none
    | refine sR (h := ?_)
    | refine sX (h := ?_)
    | refine sD (hm := by exact mixed) (h := ?_)
    | ((with_reducible refine sGb ?_); first | refine sTe (h := ?_) | refine sFd (h := ?_) | refine sTb (h := ?_) | refine sFb (h := ?_))
    | with_reducible refine sBd (fun hb hc => ?_) (fun hb hc => ?_) (fun hb hc => ?_) (fun hb hc => ?_)
    | ((with_reducible refine sGb ?_); refine sIb (fun hb => ?_) (fun hb => ?_))
    | ((with_reducible refine sGi ?_); first | refine sT (h := ?_) | refine sF' (h := ?_) | refine sI (fun hb hc => ?_) (fun hb hc => ?_))
    | with_reducible refine sim_let ?_
    | refine sY (h := ?_)
    | refine sN (h := ?_)
    | refine IHl0.out _ (_, _, _) _ (by omega) ?_
    | (refine sim_loop (fun k (x : List Int × List Int × Int) => match x with | (x0, x1, x5) => steelyardkeep_Nat.l0 k x0 x1 x5) (fun x => mkS [(0, .sl 1 (.int .u32 0) (x.1.map (AV.int .u32))), (1, .sl 1 (.int .u32 0) (x.2.1.map (AV.int .u32))), (5, .int .i64 x.2.2)] ([] ++ []) []) _ (fun ⟨_, _, _⟩ => rfl) (fun k hkl0 IH x => ?_) ((_, _, _)) ?_; obtain ⟨x0, x1, x5⟩ := x; simp only [steelyardkeep_Nat.l0]; have IHl0 := Hid.mk IH; clear IH; refine sim_mk ?_)
    | refine sF [] false
    | refine sFe [] false
    | fail)
   | ((with_reducible refine gO ?_); first
    | with_reducible exact simO_none
    | ((with_reducible refine oGb ?_); first | refine oTe (h := ?_) | refine oFd (h := ?_) | refine oTb (h := ?_) | refine oFb (h := ?_))
    | with_reducible refine oBd (fun hb hc => ?_) (fun hb hc => ?_) (fun hb hc => ?_) (fun hb hc => ?_)
    | ((with_reducible refine oGb ?_); refine oIb (fun hb => ?_) (fun hb => ?_))
    | ((with_reducible refine oGi ?_); first | refine oT (h := ?_) | refine oF' (h := ?_) | refine oI (fun hb hc => ?_) (fun hb hc => ?_))
    | with_reducible refine simO_let ?_
    | refine simO_nil ?_
    | refine oV (h := ?_)
    | refine oKu (h := ?_)
    | refine oS (h := ?_)
    | refine oN (h := ?_)
    | refine oA (h := ?_)
    | fail)
   | ((with_reducible refine gL ?_); first
    | refine lC [] [] []
    | refine lNilF 0 1 (.int .u32 0) (h := ?_)
    | refine lNilF 1 1 (.int .u32 0) (h := ?_)
    | fail)
   | fail

theorem steelyardkeep_Int.holds {mx : Int} (k : Nat) (a0_0 : Bool) (l0_1 : List Int) (a1_0 : Bool) (l1_1 : List Int) (r : Bool) (h : steelyardkeep_Int.f k a0_0 l0_1 a1_0 l1_1 = some r) : Holds Tryz.prog (G0 mx) 36 [] [.agg [.bool a0_0, .sl 1 (.int .u32 0) (l0_1.map (AV.int .u32))], .agg [.bool a1_0, .sl 1 (.int .u32 0) (l1_1.map (AV.int .u32))]] (.bool r) [] := by
  refine holds_of_sim (fun (r : Bool) => (.bool r, [])) h Tryz.func36 rfl (by kernel_rfl) 17 rfl (by simp) (by simp) [(0, .agg [.bool a0_0, .sl 1 (.int .u32 0) (l0_1.map (AV.int .u32))]), (1, .agg [.bool a1_0, .sl 1 (.int .u32 0) (l1_1.map (AV.int .u32))])] rfl [] rfl [.tmp 4] rfl ?_
  clear h
  unfold steelyardkeep_Int.f
  refine sim_mk ?_
  repeat' first
   | ((with_reducible refine gS ?_); first
    | with_reducible refine sim_seq ?_
    | with_reducible refine sim_block ?_
    | with_reducible refine sim_skip ?_
    | with_reducible refine sim_inBlock ?_
    | with_reducible exact sim_none
    | refine sR (h := ?_)
    | refine sX (h := ?_)
    | refine sD (hm := by exact mixed) (h := ?_)
    | ((with_reducible refine sGb ?_); first | refine sTe (h := ?_) | refine sFd (h := ?_) | refine sTb (h := ?_) | refine sFb (h := ?_))
    | with_reducible refine sBd (fun hb hc => ?_) (fun hb hc => ?_) (fun hb hc => ?_) (fun hb hc => ?_)
    | ((with_reducible refine sGb ?_); refine sIb (fun hb => ?_) (fun hb => ?_))
    | ((with_reducible refine sGi ?_); first | refine sT (h := ?_) | refine sF' (h := ?_) | refine sI (fun hb hc => ?_) (fun hb hc => ?_))
    | with_reducible refine sim_let ?_
    | refine sY (h := ?_)
    | refine sN (h := ?_)
    | refine sF [] false
    | refine sFe [] false
    | fail)
   | ((with_reducible refine gO ?_); first
    | with_reducible exact simO_none
    | ((with_reducible refine oGb ?_); first | refine oTe (h := ?_) | refine oFd (h := ?_) | refine oTb (h := ?_) | refine oFb (h := ?_))
    | with_reducible refine oBd (fun hb hc => ?_) (fun hb hc => ?_) (fun hb hc => ?_) (fun hb hc => ?_)
    | ((with_reducible refine oGb ?_); refine oIb (fun hb => ?_) (fun hb => ?_))
    | ((with_reducible refine oGi ?_); first | refine oT (h := ?_) | refine oF' (h := ?_) | refine oI (fun hb hc => ?_) (fun hb hc => ?_))
    | with_reducible refine simO_let ?_
    | refine simO_nil ?_
    | ((with_reducible refine gC ?_); first
     | refine oCg true (hh := fun t ht => steelyardkeep_Nat.holds _ _ _ t ht) (h := fun t => ?_)
     | fail)
    | refine oV (h := ?_)
    | refine oVg (h := ?_)
    | refine oKg (h := ?_)
    | refine oKu (h := ?_)
    | refine oS (h := ?_)
    | refine oN (h := ?_)
    | refine oNg (h := ?_)
    | refine oA (h := ?_)
    | fail)
   | fail

theorem steelyardkeep_Rat.holds {mx : Int} (k : Nat) (a0_0 : Bool) (l0_1 : List Int) (l0_2 : List Int) (a1_0 : Bool) (l1_1 : List Int) (l1_2 : List Int) (r : Bool) (h : steelyardkeep_Rat.f k a0_0 l0_1 l0_2 a1_0 l1_1 l1_2 = some r) : Holds Tryz.prog (G0 mx) 17 [] [.agg [.bool a0_0, .sl 1 (.int .u32 0) (l0_1.map (AV.int .u32)), .sl 1 (.int .u32 0) (l0_2.map (AV.int .u32))], .agg [.bool a1_0, .sl 1 (.int .u32 0) (l1_1.map (AV.int .u32)), .sl 1 (.int .u32 0) (l1_2.map (AV.int .u32))]] (.bool r) [] := by
  refine holds_of_sim (fun (r : Bool) => (.bool r, [])) h Tryz.func17 rfl (by kernel_rfl) 17 rfl (by simp) (by simp) [(0, .agg [.bool a0_0, .sl 1 (.int .u32 0) (l0_1.map (AV.int .u32)), .sl 1 (.int .u32 0) (l0_2.map (AV.int .u32))]), (1, .agg [.bool a1_0, .sl 1 (.int .u32 0) (l1_1.map (AV.int .u32)), .sl 1 (.int .u32 0) (l1_2.map (AV.int .u32))])] rfl [] rfl [.tmp 4] rfl ?_
  clear h
  unfold steelyardkeep_Rat.f
  refine sim_mk ?_
  repeat' first
   | ((with_reducible refine gS ?_); first
    | with_reducible refine sim_seq ?_
    | with_reducible refine sim_block ?_
    | with_reducible refine sim_skip ?_
    | with_reducible refine sim_inBlock ?_
    | with_reducible exact sim_none
    | refine sR (h := ?_)
    | refine sX (h := ?_)
    | refine sD (hm := by exact mixed) (h := ?_)
    | ((with_reducible refine sGb ?_); first | refine sTe (h := ?_) | refine sFd (h := ?_) | refine sTb (h := ?_) | refine sFb (h := ?_))
    | with_reducible refine sBd (fun hb hc => ?_) (fun hb hc => ?_) (fun hb hc => ?_) (fun hb hc => ?_)
    | ((with_reducible refine sGb ?_); refine sIb (fun hb => ?_) (fun hb => ?_))
    | ((with_reducible refine sGi ?_); first | refine sT (h := ?_) | refine sF' (h := ?_) | refine sI (fun hb hc => ?_) (fun hb hc => ?_))
    | with_reducible refine sim_let ?_
    | refine sY (h := ?_)
    | refine sN (h := ?_)
    | refine sF [] false
    | refine sFe [] false
    | fail)
   | ((with_reducible refine gO ?_); first
    | with_reducible exact simO_none
    | ((with_reducible refine oGb ?_); first | refine oTe (h := ?_) | refine oFd (h := ?_) | refine oTb (h := ?_) | refine oFb (h := ?_))
    | with_reducible refine oBd (fun hb hc => ?_) (fun hb hc => ?_) (fun hb hc => ?_) (fun hb hc => ?_)
    | ((with_reducible refine oGb ?_); refine oIb (fun hb => ?_) (fun hb => ?_))
    | ((with_reducible refine oGi ?_); first | refine oT (h := ?_) | refine oF' (h := ?_) | refine oI (fun hb hc => ?_) (fun hb hc => ?_))
    | with_reducible refine simO_let ?_
    | refine simO_nil ?_
    | ((with_reducible refine gC ?_); first
     | refine oC true (hh := fun t ht => steelyardkeep_Int.holds _ _ _ _ _ t ht) (h := fun t => ?_)
     | refine oCg true (hh := fun t ht => steelyardkeep_Nat.holds _ _ _ t ht) (h := fun t => ?_)
     | fail)
    | refine oV (h := ?_)
    | refine oVg (h := ?_)
    | refine oKg (h := ?_)
    | refine oKu (h := ?_)
    | refine oS (h := ?_)
    | refine oN (h := ?_)
    | refine oNg (h := ?_)
    | refine oA (h := ?_)
    | fail)
   | fail

end Go.Proofs.YtjgmmaeafodpmaaGreatDoor.P
