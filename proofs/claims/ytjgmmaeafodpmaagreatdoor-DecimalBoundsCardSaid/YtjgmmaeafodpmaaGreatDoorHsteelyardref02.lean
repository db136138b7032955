/- Contracts: each Go function of a package comes to its plain function. -/
import Derived.Test.YtjgmmaeafodpmaaGreatDoorMb
import Derived.Test.YtjgmmaeafodpmaaGreatDoorMx
import Derived.Test.YtjgmmaeafodpmaaGreatDoorHsteelyardref01
set_option linter.unusedVariables false
set_option linter.unusedSimpArgs false
set_option maxRecDepth 100000
set_option maxHeartbeats 8000000
namespace Go.Proofs.YtjgmmaeafodpmaaGreatDoor.P
open Go Go.RowKit Go.Proofs.YtjgmmaeafodpmaaGreatDoor.Am Go.Proofs.YtjgmmaeafodpmaaGreatDoorW.PrintWords Go.Proofs.YtjgmmaeafodpmaaGreatDoorW.PrintMore
attribute [local irreducible] cpy rd bt strOfNums ByteArray.extract
theorem steelyardref02_Up.holds {mx : Int} (k : Nat) (l0 : List Int) (a1 : Int) (r : List Int) (h : steelyardref02_Up.f k l0 a1 = some r) : Holds Tryz.prog (G0 mx) 114 [] [.sl 1 (.int .u32 0) (l0.map (AV.int .u32)), .int .i64 a1] (.own 0 0 r.length) [⟨86, 1, (.int .u32 0), r.map (AV.int .u32)⟩] := by
  refine holds_of_sim (fun (r : List Int) => (.own 0 0 r.length, [⟨86, 1, (.int .u32 0), r.map (AV.int .u32)⟩])) h Tryz.func114 rfl (by kernel_rfl) 47 rfl (by simp) (by simp) [(0, .sl 1 (.int .u32 0) (l0.map (AV.int .u32))), (1, .int .i64 a1)] rfl [] rfl [.tmp 4] rfl ?_
  clear h
  unfold steelyardref02_Up.f
  refine sim_mk ?_
  repeat' first
   | ((with_reducible refine gS ?_); first
    | with_reducible refine sim_seq ?_
    | with_reducible refine sim_block ?_
    | with_reducible refine sim_skip ?_
    | with_reducible refine sim_inBlock ?_
    | with_reducible exact sim_none
    | refine sR (h := ?_)
    | refine sX (h := ?_)
    | refine sD (hm := by exact mixed) (h := ?_)
    | ((with_reducible refine sGb ?_); first | refine sTe (h := ?_) | refine sFd (h := ?_) | refine sTb (h := ?_) | refine sFb (h := ?_))
    | with_reducible refine sBd (fun hb hc => ?_) (fun hb hc => ?_) (fun hb hc => ?_) (fun hb hc => ?_)
    | ((with_reducible refine sGb ?_); refine sIb (fun hb => ?_) (fun hb => ?_))
    | with_reducible refine sIw (fun r1 r2 r3 r4 => ?_)
    | ((with_reducible refine sGi ?_); first | refine sT (h := ?_) | refine sF' (h := ?_) | refine sI (fun hb hc => ?_) (fun hb hc => ?_))
    | with_reducible refine sim_let ?_
    | refine sY (h := ?_)
    | refine sN (h := ?_)
    | refine IHl0.out _ (_, _, _, _, _) _ (by omega) ?_
    | (refine sim_loop (fun k (x : List Int × Int × List Int × Int × Int) => match x with | (x0, x1, x5, x6, x7) => steelyardref02_Up.l0 k x0 x1 x5 x6 x7) (fun x => mkS [(0, .sl 1 (.int .u32 0) (x.1.map (AV.int .u32))), (1, .int .i64 x.2.1), (5, .own 1005 0 x.2.2.1.length), (6, .int .u64 x.2.2.2.1), (7, .int .i64 x.2.2.2.2)] ([] ++ [1005]) [⟨86, 1, (.int .u32 0), x.2.2.1.map (AV.int .u32)⟩]) _ (fun ⟨_, _, _, _, _⟩ => rfl) (fun k hkl0 IH x => ?_) ((_, _, _, _, _)) ?_; obtain ⟨x0, x1, x5, x6, x7⟩ := x; simp only [steelyardref02_Up.l0]; have IHl0 := Hid.mk IH; clear IH; refine sim_mk ?_)
    | refine sF [] true
    | refine sFe [] true
    | refine sNil 4 3004 ⟨86, 1, (.int .u32 0), []⟩ (h := ?_)
    | fail)
   | ((with_reducible refine gO ?_); first
    | with_reducible exact simO_none
    | ((with_reducible refine oGb ?_); first | refine oTe (h := ?_) | refine oFd (h := ?_) | refine oTb (h := ?_) | refine oFb (h := ?_))
    | with_reducible refine oBd (fun hb hc => ?_) (fun hb hc => ?_) (fun hb hc => ?_) (fun hb hc => ?_)
    | ((with_reducible refine oGb ?_); refine oIb (fun hb => ?_) (fun hb => ?_))
    | with_reducible refine oIw (fun r1 r2 r3 r4 => ?_)
    | ((with_reducible refine oGi ?_); first | refine oT (h := ?_) | refine oF' (h := ?_) | refine oI (fun hb hc => ?_) (fun hb hc => ?_))
    | with_reducible refine simO_let ?_
    | refine simO_nil ?_
    | ((with_reducible refine gC ?_); first
     | refine oC true (hh := fun t ht => steelyardref01_Trim.holds _ _ t ht) (h := fun t => ?_)
     | fail)
    | refine oV (h := ?_)
    | refine oKu (h := ?_)
    | refine oS (h := ?_)
    | refine oN (h := ?_)
    | refine oA (h := ?_)
    | fail)
   | ((with_reducible refine gL ?_); first
    | refine lC [] [5] [1005]
    | (refine lTr 5 (h := ?_); refine lC [] [5] [1005])
    | refine lNil 5 2005 ⟨86, 1, (.int .u32 0), []⟩ (h := ?_)
    | refine lNilF 0 1 (.int .u32 0) (h := ?_)
    | fail)
   | fail

theorem steelyardref02_Down.holds {mx : Int} (k : Nat) (l0 : List Int) (a1 : Int) (r : List Int) (h : steelyardref02_Down.f k l0 a1 = some r) : Holds Tryz.prog (G0 mx) 118 [] [.sl 1 (.int .u32 0) (l0.map (AV.int .u32)), .int .i64 a1] (.own 0 0 r.length) [⟨86, 1, (.int .u32 0), r.map (AV.int .u32)⟩] := by
  refine holds_of_sim (fun (r : List Int) => (.own 0 0 r.length, [⟨86, 1, (.int .u32 0), r.map (AV.int .u32)⟩])) h Tryz.func118 rfl (by kernel_rfl) 46 rfl (by simp) (by simp) [(0, .sl 1 (.int .u32 0) (l0.map (AV.int .u32))), (1, .int .i64 a1)] rfl [] rfl [.tmp 4] rfl ?_
  clear h
  unfold steelyardref02_Down.f
  refine sim_mk ?_
  repeat' first
   | ((with_reducible refine gS ?_); first
    | with_reducible refine sim_seq ?_
    | with_reducible refine sim_block ?_
    | with_reducible refine sim_skip ?_
    | with_reducible refine sim_inBlock ?_
    | with_reducible exact sim_none
    | refine sR (h := ?_)
    | refine sX (h := ?_)
    | refine sD (hm := by exact mixed) (h := ?_)
    | ((with_reducible refine sGb ?_); first | refine sTe (h := ?_) | refine sFd (h := ?_) | refine sTb (h := ?_) | refine sFb (h := ?_))
    | with_reducible refine sBd (fun hb hc => ?_) (fun hb hc => ?_) (fun hb hc => ?_) (fun hb hc => ?_)
    | ((with_reducible refine sGb ?_); refine sIb (fun hb => ?_) (fun hb => ?_))
    | with_reducible refine sIw (fun r1 r2 r3 r4 => ?_)
    | ((with_reducible refine sGi ?_); first | refine sT (h := ?_) | refine sF' (h := ?_) | refine sI (fun hb hc => ?_) (fun hb hc => ?_))
    | with_reducible refine sim_let ?_
    | refine sY (h := ?_)
    | refine sN (h := ?_)
    | refine IHl0.out _ (_, _, _, _) _ (by omega) ?_
    | (refine sim_loop (fun k (x : List Int × Int × List Int × Int) => match x with | (x0, x1, x5, x6) => steelyardref02_Down.l0 k x0 x1 x5 x6) (fun x => mkS [(0, .sl 1 (.int .u32 0) (x.1.map (AV.int .u32))), (1, .int .i64 x.2.1), (5, .own 1005 0 x.2.2.1.length), (6, .int .i64 x.2.2.2)] ([] ++ [1005]) [⟨86, 1, (.int .u32 0), x.2.2.1.map (AV.int .u32)⟩]) _ (fun ⟨_, _, _, _⟩ => rfl) (fun k hkl0 IH x => ?_) ((_, _, _, _)) ?_; obtain ⟨x0, x1, x5, x6⟩ := x; simp only [steelyardref02_Down.l0]; have IHl0 := Hid.mk IH; clear IH; refine sim_mk ?_)
    | refine sF [] true
    | refine sFe [] true
    | refine sNil 4 3004 ⟨86, 1, (.int .u32 0), []⟩ (h := ?_)
    | fail)
   | ((with_reducible refine gO ?_); first
    | with_reducible exact simO_none
    | ((with_reducible refine oGb ?_); first | refine oTe (h := ?_) | refine oFd (h := ?_) | refine oTb (h := ?_) | refine oFb (h := ?_))
    | with_reducible refine oBd (fun hb hc => ?_) (fun hb hc => ?_) (fun hb hc => ?_) (fun hb hc => ?_)
    | ((with_reducible refine oGb ?_); refine oIb (fun hb => ?_) (fun hb => ?_))
    | with_reducible refine oIw (fun r1 r2 r3 r4 => ?_)
    | ((with_reducible refine oGi ?_); first | refine oT (h := ?_) | refine oF' (h := ?_) | refine oI (fun hb hc => ?_) (fun hb hc => ?_))
    | with_reducible refine simO_let ?_
    | refine simO_nil ?_
    | ((with_reducible refine gC ?_); first
     | refine oC true (hh := fun t ht => steelyardref01_Trim.holds _ _ t ht) (h := fun t => ?_)
     | fail)
    | refine oV (h := ?_)
    | refine oKu (h := ?_)
    | refine oS (h := ?_)
    | refine oN (h := ?_)
    | refine oA (h := ?_)
    | fail)
   | ((with_reducible refine gL ?_); first
    | refine lC [] [5] [1005]
    | (refine lTr 5 (h := ?_); refine lC [] [5] [1005])
    | refine lNil 5 2005 ⟨86, 1, (.int .u32 0), []⟩ (h := ?_)
    | refine lNilF 0 1 (.int .u32 0) (h := ?_)
    | fail)
   | fail

theorem steelyardref02_Small.holds {mx : Int} (k : Nat) (l0 : List Int) (a1 : Int) (r : List Int) (h : steelyardref02_Small.f k l0 a1 = some r) : Holds Tryz.prog (G0 mx) 113 [] [.sl 1 (.int .u32 0) (l0.map (AV.int .u32)), .int .u32 a1] (.own 0 0 r.length) [⟨86, 1, (.int .u32 0), r.map (AV.int .u32)⟩] := by
  refine holds_of_sim (fun (r : List Int) => (.own 0 0 r.length, [⟨86, 1, (.int .u32 0), r.map (AV.int .u32)⟩])) h Tryz.func113 rfl (by kernel_rfl) 37 rfl (by simp) (by simp) [(0, .sl 1 (.int .u32 0) (l0.map (AV.int .u32))), (1, .int .u32 a1)] rfl [] rfl [.tmp 4] rfl ?_
  clear h
  unfold steelyardref02_Small.f
  refine sim_mk ?_
  repeat' first
   | ((with_reducible refine gS ?_); first
    | with_reducible refine sim_seq ?_
    | with_reducible refine sim_block ?_
    | with_reducible refine sim_skip ?_
    | with_reducible refine sim_inBlock ?_
    | with_reducible exact sim_none
    | refine sR (h := ?_)
    | refine sX (h := ?_)
    | refine sD (hm := by exact mixed) (h := ?_)
    | ((with_reducible refine sGb ?_); first | refine sTe (h := ?_) | refine sFd (h := ?_) | refine sTb (h := ?_) | refine sFb (h := ?_))
    | with_reducible refine sBd (fun hb hc => ?_) (fun hb hc => ?_) (fun hb hc => ?_) (fun hb hc => ?_)
    | ((with_reducible refine sGb ?_); refine sIb (fun hb => ?_) (fun hb => ?_))
    | with_reducible refine sIw (fun r1 r2 r3 r4 => ?_)
    | ((with_reducible refine sGi ?_); first | refine sT (h := ?_) | refine sF' (h := ?_) | refine sI (fun hb hc => ?_) (fun hb hc => ?_))
    | with_reducible refine sim_let ?_
    | refine sY (h := ?_)
    | refine sN (h := ?_)
    | refine IHl0.out _ (_, _, _, _, _) _ (by omega) ?_
    | (refine sim_loop (fun k (x : List Int × Int × List Int × Int × Int) => match x with | (x0, x1, x5, x6, x7) => steelyardref02_Small.l0 k x0 x1 x5 x6 x7) (fun x => mkS [(0, .sl 1 (.int .u32 0) (x.1.map (AV.int .u32))), (1, .int .u32 x.2.1), (5, .own 1005 0 x.2.2.1.length), (6, .int .u64 x.2.2.2.1), (7, .int .i64 x.2.2.2.2)] ([] ++ [1005]) [⟨86, 1, (.int .u32 0), x.2.2.1.map (AV.int .u32)⟩]) _ (fun ⟨_, _, _, _, _⟩ => rfl) (fun k hkl0 IH x => ?_) ((_, _, _, _, _)) ?_; obtain ⟨x0, x1, x5, x6, x7⟩ := x; simp only [steelyardref02_Small.l0]; have IHl0 := Hid.mk IH; clear IH; refine sim_mk ?_)
    | refine sF [] true
    | refine sFe [] true
    | refine sNil 4 3004 ⟨86, 1, (.int .u32 0), []⟩ (h := ?_)
    | fail)
   | ((with_reducible refine gO ?_); first
    | with_reducible exact simO_none
    | ((with_reducible refine oGb ?_); first | refine oTe (h := ?_) | refine oFd (h := ?_) | refine oTb (h := ?_) | refine oFb (h := ?_))
    | with_reducible refine oBd (fun hb hc => ?_) (fun hb hc => ?_) (fun hb hc => ?_) (fun hb hc => ?_)
    | ((with_reducible refine oGb ?_); refine oIb (fun hb => ?_) (fun hb => ?_))
    | with_reducible refine oIw (fun r1 r2 r3 r4 => ?_)
    | ((with_reducible refine oGi ?_); first | refine oT (h := ?_) | refine oF' (h := ?_) | refine oI (fun hb hc => ?_) (fun hb hc => ?_))
    | with_reducible refine simO_let ?_
    | refine simO_nil ?_
    | ((with_reducible refine gC ?_); first
     | refine oC true (hh := fun t ht => steelyardref01_Trim.holds _ _ t ht) (h := fun t => ?_)
     | fail)
    | refine oV (h := ?_)
    | refine oKu (h := ?_)
    | refine oS (h := ?_)
    | refine oN (h := ?_)
    | refine oA (h := ?_)
    | fail)
   | ((with_reducible refine gL ?_); first
    | refine lC [] [5] [1005]
    | (refine lTr 5 (h := ?_); refine lC [] [5] [1005])
    | refine lNil 5 2005 ⟨86, 1, (.int .u32 0), []⟩ (h := ?_)
    | refine lNilF 0 1 (.int .u32 0) (h := ?_)
    | fail)
   | fail

theorem steelyardref02_Of.holds {mx : Int} (k : Nat) (l0 : List Int) (l1 : List Int) (r : List Int) (h : steelyardref02_Of.f k l0 l1 = some r) : Holds Tryz.prog (G0 mx) 58 [] [.sl 1 (.int .u32 0) (l0.map (AV.int .u32)), .sl 1 (.int .u32 0) (l1.map (AV.int .u32))] (.own 0 0 r.length) [⟨86, 1, (.int .u32 0), r.map (AV.int .u32)⟩] := by
  refine holds_of_sim (fun (r : List Int) => (.own 0 0 r.length, [⟨86, 1, (.int .u32 0), r.map (AV.int .u32)⟩])) h Tryz.func58 rfl (by kernel_rfl) 26 rfl (by simp) (by simp) [(0, .sl 1 (.int .u32 0) (l0.map (AV.int .u32))), (1, .sl 1 (.int .u32 0) (l1.map (AV.int .u32)))] rfl [] rfl [.tmp 4] rfl ?_
  clear h
  unfold steelyardref02_Of.f
  refine sim_mk ?_
  repeat' first
   | ((with_reducible refine gS ?_); first
    | with_reducible refine sim_seq ?_
    | with_reducible refine sim_block ?_
    | with_reducible refine sim_skip ?_
    | with_reducible refine sim_inBlock ?_
    | with_reducible exact sim_none
    | refine sR (h := ?_)
    | refine sX (h := ?_)
    | refine sD (hm := by exact mixed) (h := ?_)
    | ((with_reducible refine sGb ?_); first | refine sTe (h := ?_) | refine sFd (h := ?_) | refine sTb (h := ?_) | refine sFb (h := ?_))
    | with_reducible refine sBd (fun hb hc => ?_) (fun hb hc => ?_) (fun hb hc => ?_) (fun hb hc => ?_)
    | ((with_reducible refine sGb ?_); refine sIb (fun hb => ?_) (fun hb => ?_))
    | ((with_reducible refine sGi ?_); first | refine sT (h := ?_) | refine sF' (h := ?_) | refine sI (fun hb hc => ?_) (fun hb hc => ?_))
    | with_reducible refine sim_let ?_
    | refine sY (h := ?_)
    | refine sN (h := ?_)
    | refine IHl0.out _ (_, _, _, _) _ (by omega) ?_
    | (refine sim_loop (fun k (x : List Int × List Int × List Int × Int) => match x with | (x0, x1, x5, x6) => steelyardref02_Of.l0 k x0 x1 x5 x6) (fun x => mkS [(0, .sl 1 (.int .u32 0) (x.1.map (AV.int .u32))), (1, .sl 1 (.int .u32 0) (x.2.1.map (AV.int .u32))), (5, .sl 1 (.int .u32 0) (x.2.2.1.map (AV.int .u32))), (6, .int .i64 x.2.2.2)] ([] ++ []) []) _ (fun ⟨_, _, _, _⟩ => rfl) (fun k hkl0 IH x => ?_) ((_, _, _, _)) ?_; obtain ⟨x0, x1, x5, x6⟩ := x; simp only [steelyardref02_Of.l0]; have IHl0 := Hid.mk IH; clear IH; refine sim_mk ?_)
    | refine sF [] true
    | refine sFe [] true
    | refine sNil 4 3004 ⟨86, 1, (.int .u32 0), []⟩ (h := ?_)
    | fail)
   | ((with_reducible refine gO ?_); first
    | with_reducible exact simO_none
    | ((with_reducible refine oGb ?_); first | refine oTe (h := ?_) | refine oFd (h := ?_) | refine oTb (h := ?_) | refine oFb (h := ?_))
    | with_reducible refine oBd (fun hb hc => ?_) (fun hb hc => ?_) (fun hb hc => ?_) (fun hb hc => ?_)
    | ((with_reducible refine oGb ?_); refine oIb (fun hb => ?_) (fun hb => ?_))
    | ((with_reducible refine oGi ?_); first | refine oT (h := ?_) | refine oF' (h := ?_) | refine oI (fun hb hc => ?_) (fun hb hc => ?_))
    | with_reducible refine simO_let ?_
    | refine simO_nil ?_
    | ((with_reducible refine gC ?_); first
     | refine oC true (hh := fun t ht => steelyardref01_Add.holds _ _ _ t ht) (h := fun t => ?_)
     | refine oC true (hh := fun t ht => steelyardref02_Small.holds _ _ _ t ht) (h := fun t => ?_)
     | refine oC true (hh := fun t ht => steelyardref02_Up.holds _ _ _ t ht) (h := fun t => ?_)
     | refine oC true (hh := fun t ht => steelyardref01_Trim.holds _ _ t ht) (h := fun t => ?_)
     | fail)
    | refine oV (h := ?_)
    | refine oKu (h := ?_)
    | refine oS (h := ?_)
    | refine oN (h := ?_)
    | refine oA (h := ?_)
    | fail)
   | ((with_reducible refine gL ?_); first
    | refine lC [] [] []
    | refine lNilF 0 1 (.int .u32 0) (h := ?_)
    | refine lNilF 1 1 (.int .u32 0) (h := ?_)
    | refine lNilF 5 1 (.int .u32 0) (h := ?_)
    | fail)
   | fail

end Go.Proofs.YtjgmmaeafodpmaaGreatDoor.P
