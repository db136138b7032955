/- Contracts: each Go function of a package comes to its plain function. -/
import Derived.Test.YtjgmmaeafodpmaaGreatDoorMb
import Derived.Test.YtjgmmaeafodpmaaGreatDoorMx
import Derived.Test.YtjgmmaeafodpmaaGreatDoorHsteelyardref01
import Derived.Test.YtjgmmaeafodpmaaGreatDoorHsteelyardref02
set_option linter.unusedVariables false
set_option linter.unusedSimpArgs false
set_option maxRecDepth 100000
set_option maxHeartbeats 8000000
namespace Go.Proofs.YtjgmmaeafodpmaaGreatDoor.P
open Go Go.RowKit Go.Proofs.YtjgmmaeafodpmaaGreatDoor.Am Go.Proofs.YtjgmmaeafodpmaaGreatDoorW.PrintWords Go.Proofs.YtjgmmaeafodpmaaGreatDoorW.PrintMore
attribute [local irreducible] cpy rd bt strOfNums ByteArray.extract
theorem steelyardref03_Rem.holds {mx : Int} (k : Nat) (l0 : List Int) (l1 : List Int) (r : List Int × List Int × Bool) (h : steelyardref03_Rem.f k l0 l1 = some r) : Holds Tryz.prog (G0 mx) 59 [] [.sl 1 (.int .u32 0) (l0.map (AV.int .u32)), .sl 1 (.int .u32 0) (l1.map (AV.int .u32))] (.agg [.sl 1 (.int .u32 0) (r.1.map (AV.int .u32)), .sl 1 (.int .u32 0) (r.2.1.map (AV.int .u32)), .bool r.2.2]) [] := by
  refine holds_of_sim (fun (r : List Int × List Int × Bool) => (.agg [.sl 1 (.int .u32 0) (r.1.map (AV.int .u32)), .sl 1 (.int .u32 0) (r.2.1.map (AV.int .u32)), .bool r.2.2], [])) h Tryz.func59 rfl (by kernel_rfl) 58 rfl (by simp) (by simp) [(0, .sl 1 (.int .u32 0) (l0.map (AV.int .u32))), (1, .sl 1 (.int .u32 0) (l1.map (AV.int .u32)))] rfl [] rfl [.cell 4 83] rfl ?_
  clear h
  unfold steelyardref03_Rem.f
  refine sim_mk ?_
  repeat' first
   | ((with_reducible refine gS ?_); first
    | with_reducible refine sim_seq ?_
    | with_reducible refine sim_block ?_
    | with_reducible refine sim_skip ?_
    | with_reducible refine sim_inBlock ?_
    | with_reducible exact sim_none
    | refine sR (h := ?_)
    | refine sX (h := ?_)
    | refine sD (hm := by exact mixed) (h := ?_)
    | ((with_reducible refine sGb ?_); first | refine sTe (h := ?_) | refine sFd (h := ?_) | refine sTb (h := ?_) | refine sFb (h := ?_))
    | with_reducible refine sBd (fun hb hc => ?_) (fun hb hc => ?_) (fun hb hc => ?_) (fun hb hc => ?_)
    | ((with_reducible refine sGb ?_); refine sIb (fun hb => ?_) (fun hb => ?_))
    | ((with_reducible refine sGi ?_); first | refine sT (h := ?_) | refine sF' (h := ?_) | refine sI (fun hb hc => ?_) (fun hb hc => ?_))
    | with_reducible refine sim_let ?_
    | refine sY (h := ?_)
    | refine sN (h := ?_)
    | refine IHl0.out _ (_, _, _, _) _ (by omega) ?_
    | (refine sim_loop (fun k (x : List Int × List Int × List Int × Int) => match x with | (x5, x7, x8, x9) => steelyardref03_Rem.l0 k x5 x7 x8 x9) (fun x => mkS [(5, .sl 1 (.int .u32 0) (x.1.map (AV.int .u32))), (7, .own 1007 0 x.2.1.length), (8, .sl 1 (.int .u32 0) (x.2.2.1.map (AV.int .u32))), (9, .int .i64 x.2.2.2), (4, .optr 1004 0 0)] ([] ++ [1007, 1004]) [⟨86, 1, (.int .u32 0), x.2.1.map (AV.int .u32)⟩, ⟨83, 3, (.agg [.nil, .nil, (.bool false)]), [(.agg [.nil, .nil, (.bool false)])]⟩]) _ (fun ⟨_, _, _, _⟩ => rfl) (fun k hkl0 IH x => ?_) ((_, _, _, _)) ?_; obtain ⟨x5, x7, x8, x9⟩ := x; simp only [steelyardref03_Rem.l0]; have IHl0 := Hid.mk IH; clear IH; refine sim_mk ?_)
    | refine sF [] false
    | refine sFe [] false
    | fail)
   | ((with_reducible refine gO ?_); first
    | with_reducible exact simO_none
    | ((with_reducible refine oGb ?_); first | refine oTe (h := ?_) | refine oFd (h := ?_) | refine oTb (h := ?_) | refine oFb (h := ?_))
    | with_reducible refine oBd (fun hb hc => ?_) (fun hb hc => ?_) (fun hb hc => ?_) (fun hb hc => ?_)
    | ((with_reducible refine oGb ?_); refine oIb (fun hb => ?_) (fun hb => ?_))
    | ((with_reducible refine oGi ?_); first | refine oT (h := ?_) | refine oF' (h := ?_) | refine oI (fun hb hc => ?_) (fun hb hc => ?_))
    | with_reducible refine simO_let ?_
    | refine simO_nil ?_
    | ((with_reducible refine gC ?_); first
     | refine oC true (hh := fun t ht => steelyardref01_Cmp.holds _ _ _ t ht) (h := fun t => ?_)
     | refine oC true (hh := fun t ht => steelyardref02_Up.holds _ _ _ t ht) (h := fun t => ?_)
     | refine oC true (hh := fun t ht => steelyardref01_Trim.holds _ _ t ht) (h := fun t => ?_)
     | refine oC true (hh := fun t ht => steelyardref01_Bits.holds _ _ t ht) (h := fun t => ?_)
     | refine oC true (hh := fun t ht => steelyardref01_Sub.holds _ _ _ t ht) (h := fun t => ?_)
     | refine oC true (hh := fun t ht => steelyardref02_Down.holds _ _ _ t ht) (h := fun t => ?_)
     | fail)
    | refine oV (h := ?_)
    | refine oKu (h := ?_)
    | refine oS (h := ?_)
    | refine oN (h := ?_)
    | refine oA (h := ?_)
    | fail)
   | ((with_reducible refine gL ?_); first
    | refine lC [] [7, 4] [1007, 1004]
    | (refine lTr 7 (h := ?_); refine lC [] [7, 4] [1007, 1004])
    | refine lNil 7 2007 ⟨86, 1, (.int .u32 0), []⟩ (h := ?_)
    | refine lNilF 5 1 (.int .u32 0) (h := ?_)
    | refine lNilF 8 1 (.int .u32 0) (h := ?_)
    | fail)
   | fail

theorem steelyardref03_Gcd.holds {mx : Int} (k : Nat) (l0 : List Int) (l1 : List Int) (r : List Int) (h : steelyardref03_Gcd.f k l0 l1 = some r) : Holds Tryz.prog (G0 mx) 68 [] [.sl 1 (.int .u32 0) (l0.map (AV.int .u32)), .sl 1 (.int .u32 0) (l1.map (AV.int .u32))] (.sl 1 (.int .u32 0) (r.map (AV.int .u32))) [] := by
  refine holds_of_sim (fun (r : List Int) => (.sl 1 (.int .u32 0) (r.map (AV.int .u32)), [])) h Tryz.func68 rfl (by kernel_rfl) 20 rfl (by simp) (by simp) [(0, .sl 1 (.int .u32 0) (l0.map (AV.int .u32))), (1, .sl 1 (.int .u32 0) (l1.map (AV.int .u32)))] rfl [] rfl [.tmp 4] rfl ?_
  clear h
  unfold steelyardref03_Gcd.f
  refine sim_mk ?_
  repeat' first
   | ((with_reducible refine gS ?_); first
    | with_reducible refine sim_seq ?_
    | with_reducible refine sim_block ?_
    | with_reducible refine sim_skip ?_
    | with_reducible refine sim_inBlock ?_
    | with_reducible exact sim_none
    | refine sR (h := ?_)
    | refine sX (h := ?_)
    | refine sD (hm := by exact mixed) (h := ?_)
    | ((with_reducible refine sGb ?_); first | refine sTe (h := ?_) | refine sFd (h := ?_) | refine sTb (h := ?_) | refine sFb (h := ?_))
    | with_reducible refine sBd (fun hb hc => ?_) (fun hb hc => ?_) (fun hb hc => ?_) (fun hb hc => ?_)
    | ((with_reducible refine sGb ?_); refine sIb (fun hb => ?_) (fun hb => ?_))
    | ((with_reducible refine sGi ?_); first | refine sT (h := ?_) | refine sF' (h := ?_) | refine sI (fun hb hc => ?_) (fun hb hc => ?_))
    | with_reducible refine sim_let ?_
    | refine sY (h := ?_)
    | refine sN (h := ?_)
    | refine IHl0.out _ (_, _) _ (by omega) ?_
    | (refine sim_loop (fun k (x : List Int × List Int) => match x with | (x5, x6) => steelyardref03_Gcd.l0 k x5 x6) (fun x => mkS [(5, .sl 1 (.int .u32 0) (x.1.map (AV.int .u32))), (6, .sl 1 (.int .u32 0) (x.2.map (AV.int .u32)))] ([] ++ []) []) _ (fun ⟨_, _⟩ => rfl) (fun k hkl0 IH x => ?_) ((_, _)) ?_; obtain ⟨x5, x6⟩ := x; simp only [steelyardref03_Gcd.l0]; have IHl0 := Hid.mk IH; clear IH; refine sim_mk ?_)
    | refine sF [] false
    | refine sFe [] false
    | fail)
   | ((with_reducible refine gO ?_); first
    | with_reducible exact simO_none
    | ((with_reducible refine oGb ?_); first | refine oTe (h := ?_) | refine oFd (h := ?_) | refine oTb (h := ?_) | refine oFb (h := ?_))
    | with_reducible refine oBd (fun hb hc => ?_) (fun hb hc => ?_) (fun hb hc => ?_) (fun hb hc => ?_)
    | ((with_reducible refine oGb ?_); refine oIb (fun hb => ?_) (fun hb => ?_))
    | ((with_reducible refine oGi ?_); first | refine oT (h := ?_) | refine oF' (h := ?_) | refine oI (fun hb hc => ?_) (fun hb hc => ?_))
    | with_reducible refine simO_let ?_
    | refine simO_nil ?_
    | ((with_reducible refine gC ?_); first
     | refine oC false (hh := fun t ht => steelyardref03_Rem.holds _ _ _ t ht) (h := fun t => ?_)
     | refine oC true (hh := fun t ht => steelyardref01_Trim.holds _ _ t ht) (h := fun t => ?_)
     | fail)
    | refine oV (h := ?_)
    | refine oKu (h := ?_)
    | refine oS (h := ?_)
    | refine oN (h := ?_)
    | refine oA (h := ?_)
    | fail)
   | ((with_reducible refine gL ?_); first
    | refine lC [] [] []
    | refine lNilF 5 1 (.int .u32 0) (h := ?_)
    | refine lNilF 6 1 (.int .u32 0) (h := ?_)
    | fail)
   | fail

end Go.Proofs.YtjgmmaeafodpmaaGreatDoor.P
