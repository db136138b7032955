/- Contracts: each Go function of a package comes to its plain function. -/
import Derived.Test.YtjgmmaeafodpmaaGreatDoorMb
import Derived.Test.YtjgmmaeafodpmaaGreatDoorMx
import Derived.Test.YtjgmmaeafodpmaaGreatDoorHgo
set_option linter.unusedVariables false
set_option linter.unusedSimpArgs false
set_option maxRecDepth 100000
set_option maxHeartbeats 8000000
namespace Go.Proofs.YtjgmmaeafodpmaaGreatDoor.P
open Go Go.RowKit Go.Proofs.YtjgmmaeafodpmaaGreatDoor.Am Go.Proofs.YtjgmmaeafodpmaaGreatDoorW.PrintWords Go.Proofs.YtjgmmaeafodpmaaGreatDoorW.PrintMore
attribute [local irreducible] cpy rd bt strOfNums ByteArray.extract
theorem nat_used.holds {mx : Int} (k : Nat) (l0 : List Int) (r : Int) (h : nat_used.f k l0 = some r) : Holds Tryz.prog (G0 mx) 110 [] [.sl 1 (.int .u32 0) (l0.map (AV.int .u32))] (.int .i64 r) [] := by
  refine holds_of_sim (fun (r : Int) => (.int .i64 r, [])) h Tryz.func110 rfl (by kernel_rfl) 19 rfl (by simp) (by simp) [(0, .sl 1 (.int .u32 0) (l0.map (AV.int .u32)))] rfl [] rfl [.tmp 2] rfl ?_
  clear h
  unfold nat_used.f
  refine sim_mk ?_
  repeat' first
   | ((with_reducible refine gS ?_); first
    | with_reducible refine sim_seq ?_
    | with_reducible refine sim_block ?_
    | with_reducible refine sim_skip ?_
    | with_reducible refine sim_inBlock ?_
    | with_reducible exact sim_none
    | refine sR (h := ?_)
    | refine sX (h := ?_)
    | refine sD (hm := by exact mixed) (h := ?_)
    | ((with_reducible refine sGb ?_); first | refine sTe (h := ?_) | refine sFd (h := ?_) | refine sTb (h := ?_) | refine sFb (h := ?_))
    | with_reducible refine sBd (fun hb hc => ?_) (fun hb hc => ?_) (fun hb hc => ?_) (fun hb hc => ?_)
    | ((with_reducible refine sGb ?_); refine sIb (fun hb => ?_) (fun hb => ?_))
    | ((with_reducible refine sGi ?_); first | refine sT (h := ?_) | refine sF' (h := ?_) | refine sI (fun hb hc => ?_) (fun hb hc => ?_))
    | with_reducible refine sim_let ?_
    | refine sY (h := ?_)
    | refine sN (h := ?_)
    | refine IHl0.out _ (_, _) _ (by omega) ?_
    | (refine sim_loop (fun k (x : List Int × Int) => match x with | (x0, x3) => nat_used.l0 k x0 x3) (fun x => mkS [(0, .sl 1 (.int .u32 0) (x.1.map (AV.int .u32))), (3, .int .i64 x.2)] ([] ++ []) []) _ (fun ⟨_, _⟩ => rfl) (fun k hkl0 IH x => ?_) ((_, _)) ?_; obtain ⟨x0, x3⟩ := x; simp only [nat_used.l0]; have IHl0 := Hid.mk IH; clear IH; refine sim_mk ?_)
    | refine sF [] false
    | refine sFe [] false
    | fail)
   | ((with_reducible refine gO ?_); first
    | with_reducible exact simO_none
    | ((with_reducible refine oGb ?_); first | refine oTe (h := ?_) | refine oFd (h := ?_) | refine oTb (h := ?_) | refine oFb (h := ?_))
    | with_reducible refine oBd (fun hb hc => ?_) (fun hb hc => ?_) (fun hb hc => ?_) (fun hb hc => ?_)
    | ((with_reducible refine oGb ?_); refine oIb (fun hb => ?_) (fun hb => ?_))
    | ((with_reducible refine oGi ?_); first | refine oT (h := ?_) | refine oF' (h := ?_) | refine oI (fun hb hc => ?_) (fun hb hc => ?_))
    | with_reducible refine simO_let ?_
    | refine simO_nil ?_
    | refine oV (h := ?_)
    | refine oVg (h := ?_)
    | refine oKg (h := ?_)
    | refine oKu (h := ?_)
    | refine oS (h := ?_)
    | refine oN (h := ?_)
    | refine oNg (h := ?_)
    | refine oA (h := ?_)
    | fail)
   | ((with_reducible refine gL ?_); first
    | refine lC [] [] []
    | refine lNilF 0 1 (.int .u32 0) (h := ?_)
    | fail)
   | fail

theorem nat_Trim.holds {mx : Int} (k : Nat) (l0 : List Int) (r : List Int) (h : nat_Trim.f k l0 = some r) : Holds Tryz.prog (G0 mx) 99 [] [.sl 1 (.int .u32 0) (l0.map (AV.int .u32))] (.own 0 0 r.length) [⟨86, 1, (.int .u32 0), r.map (AV.int .u32)⟩] := by
  refine holds_of_sim (fun (r : List Int) => (.own 0 0 r.length, [⟨86, 1, (.int .u32 0), r.map (AV.int .u32)⟩])) h Tryz.func99 rfl (by kernel_rfl) 11 rfl (by simp) (by simp) [(0, .sl 1 (.int .u32 0) (l0.map (AV.int .u32)))] rfl [] rfl [.tmp 2] rfl ?_
  clear h
  unfold nat_Trim.f
  refine sim_mk ?_
  repeat' first
   | ((with_reducible refine gS ?_); first
    | with_reducible refine sim_seq ?_
    | with_reducible refine sim_block ?_
    | with_reducible refine sim_skip ?_
    | with_reducible refine sim_inBlock ?_
    | with_reducible exact sim_none
    | refine sR (h := ?_)
    | refine sX (h := ?_)
    | refine sD (hm := by exact mixed) (h := ?_)
    | ((with_reducible refine sGb ?_); first | refine sTe (h := ?_) | refine sFd (h := ?_) | refine sTb (h := ?_) | refine sFb (h := ?_))
    | with_reducible refine sBd (fun hb hc => ?_) (fun hb hc => ?_) (fun hb hc => ?_) (fun hb hc => ?_)
    | ((with_reducible refine sGb ?_); refine sIb (fun hb => ?_) (fun hb => ?_))
    | ((with_reducible refine sGi ?_); first | refine sT (h := ?_) | refine sF' (h := ?_) | refine sI (fun hb hc => ?_) (fun hb hc => ?_))
    | with_reducible refine sim_let ?_
    | refine sY (h := ?_)
    | refine sN (h := ?_)
    | refine sF [] true
    | refine sFe [] true
    | refine sNil 2 3002 ⟨86, 1, (.int .u32 0), []⟩ (h := ?_)
    | fail)
   | ((with_reducible refine gO ?_); first
    | with_reducible exact simO_none
    | ((with_reducible refine oGb ?_); first | refine oTe (h := ?_) | refine oFd (h := ?_) | refine oTb (h := ?_) | refine oFb (h := ?_))
    | with_reducible refine oBd (fun hb hc => ?_) (fun hb hc => ?_) (fun hb hc => ?_) (fun hb hc => ?_)
    | ((with_reducible refine oGb ?_); refine oIb (fun hb => ?_) (fun hb => ?_))
    | ((with_reducible refine oGi ?_); first | refine oT (h := ?_) | refine oF' (h := ?_) | refine oI (fun hb hc => ?_) (fun hb hc => ?_))
    | with_reducible refine simO_let ?_
    | refine simO_nil ?_
    | ((with_reducible refine gC ?_); first
     | refine oC true (hh := fun t ht => nat_used.holds _ _ t ht) (h := fun t => ?_)
     | fail)
    | refine oV (h := ?_)
    | refine oKu (h := ?_)
    | refine oS (h := ?_)
    | refine oN (h := ?_)
    | refine oA (h := ?_)
    | fail)
   | fail

theorem nat_Of.holds {mx : Int} (k : Nat) (a0 : Int) (r : List Int) (h : nat_Of.f k a0 = some r) : Holds Tryz.prog (G0 mx) 56 [] [.int .u64 a0] (.own 0 0 r.length) [⟨86, 1, (.int .u32 0), r.map (AV.int .u32)⟩] := by
  refine holds_of_sim (fun (r : List Int) => (.own 0 0 r.length, [⟨86, 1, (.int .u32 0), r.map (AV.int .u32)⟩])) h Tryz.func56 rfl (by kernel_rfl) 10 rfl (by simp) (by simp) [(0, .int .u64 a0)] rfl [] rfl [.tmp 2] rfl ?_
  clear h
  unfold nat_Of.f
  refine sim_mk ?_
  repeat' first
   | ((with_reducible refine gS ?_); first
    | with_reducible refine sim_seq ?_
    | with_reducible refine sim_block ?_
    | with_reducible refine sim_skip ?_
    | with_reducible refine sim_inBlock ?_
    | with_reducible exact sim_none
    | refine sR (h := ?_)
    | refine sX (h := ?_)
    | refine sD (hm := by exact mixed) (h := ?_)
    | ((with_reducible refine sGb ?_); first | refine sTe (h := ?_) | refine sFd (h := ?_) | refine sTb (h := ?_) | refine sFb (h := ?_))
    | with_reducible refine sBd (fun hb hc => ?_) (fun hb hc => ?_) (fun hb hc => ?_) (fun hb hc => ?_)
    | ((with_reducible refine sGb ?_); refine sIb (fun hb => ?_) (fun hb => ?_))
    | ((with_reducible refine sGi ?_); first | refine sT (h := ?_) | refine sF' (h := ?_) | refine sI (fun hb hc => ?_) (fun hb hc => ?_))
    | with_reducible refine sim_let ?_
    | refine sY (h := ?_)
    | refine sN (h := ?_)
    | refine sF [] true
    | refine sFe [] true
    | refine sNil 2 3002 ⟨86, 1, (.int .u32 0), []⟩ (h := ?_)
    | fail)
   | ((with_reducible refine gO ?_); first
    | with_reducible exact simO_none
    | ((with_reducible refine oGb ?_); first | refine oTe (h := ?_) | refine oFd (h := ?_) | refine oTb (h := ?_) | refine oFb (h := ?_))
    | with_reducible refine oBd (fun hb hc => ?_) (fun hb hc => ?_) (fun hb hc => ?_) (fun hb hc => ?_)
    | ((with_reducible refine oGb ?_); refine oIb (fun hb => ?_) (fun hb => ?_))
    | ((with_reducible refine oGi ?_); first | refine oT (h := ?_) | refine oF' (h := ?_) | refine oI (fun hb hc => ?_) (fun hb hc => ?_))
    | with_reducible refine simO_let ?_
    | refine simO_nil ?_
    | ((with_reducible refine gC ?_); first
     | refine oC true (hh := fun t ht => nat_Trim.holds _ _ t ht) (h := fun t => ?_)
     | fail)
    | refine oV (h := ?_)
    | refine oKu (h := ?_)
    | refine oS (h := ?_)
    | refine oN (h := ?_)
    | refine oA (h := ?_)
    | fail)
   | fail

theorem nat_Cmp.holds {mx : Int} (k : Nat) (l0 : List Int) (l1 : List Int) (r : Int) (h : nat_Cmp.f k l0 l1 = some r) : Holds Tryz.prog (G0 mx) 103 [] [.sl 1 (.int .u32 0) (l0.map (AV.int .u32)), .sl 1 (.int .u32 0) (l1.map (AV.int .u32))] (.int .i64 r) [] := by
  refine holds_of_sim (fun (r : Int) => (.int .i64 r, [])) h Tryz.func103 rfl (by kernel_rfl) 36 rfl (by simp) (by simp) [(0, .sl 1 (.int .u32 0) (l0.map (AV.int .u32))), (1, .sl 1 (.int .u32 0) (l1.map (AV.int .u32)))] rfl [] rfl [.tmp 4] rfl ?_
  clear h
  unfold nat_Cmp.f
  refine sim_mk ?_
  repeat' first
   | ((with_reducible refine gS ?_); first
    | with_reducible refine sim_seq ?_
    | with_reducible refine sim_block ?_
    | with_reducible refine sim_skip ?_
    | with_reducible refine sim_inBlock ?_
    | with_reducible exact sim_none
    | refine sR (h := ?_)
    | refine sX (h := ?_)
    | refine sD (hm := by exact mixed) (h := ?_)
    | ((with_reducible refine sGb ?_); first | refine sTe (h := ?_) | refine sFd (h := ?_) | refine sTb (h := ?_) | refine sFb (h := ?_))
    | with_reducible refine sBd (fun hb hc => ?_) (fun hb hc => ?_) (fun hb hc => ?_) (fun hb hc => ?_)
    | ((with_reducible refine sGb ?_); refine sIb (fun hb => ?_) (fun hb => ?_))
    | ((with_reducible refine sGi ?_); first | refine sT (h := ?_) | refine sF' (h := ?_) | refine sI (fun hb hc => ?_) (fun hb hc => ?_))
    | with_reducible refine sim_let ?_
    | refine sY (h := ?_)
    | refine sN (h := ?_)
    | refine IHl0.out _ (_, _, _) _ (by omega) ?_
    | (refine sim_loop (fun k (x : List Int × List Int × Int) => match x with | (x0, x1, x7) => nat_Cmp.l0 k x0 x1 x7) (fun x => mkS [(0, .sl 1 (.int .u32 0) (x.1.map (AV.int .u32))), (1, .sl 1 (.int .u32 0) (x.2.1.map (AV.int .u32))), (7, .int .i64 x.2.2)] ([] ++ []) []) _ (fun ⟨_, _, _⟩ => rfl) (fun k hkl0 IH x => ?_) ((_, _, _)) ?_; obtain ⟨x0, x1, x7⟩ := x; simp only [nat_Cmp.l0]; have IHl0 := Hid.mk IH; clear IH; refine sim_mk ?_)
    | refine sF [] false
    | refine sFe [] false
    | fail)
   | ((with_reducible refine gO ?_); first
    | with_reducible exact simO_none
    | ((with_reducible refine oGb ?_); first | refine oTe (h := ?_) | refine oFd (h := ?_) | refine oTb (h := ?_) | refine oFb (h := ?_))
    | with_reducible refine oBd (fun hb hc => ?_) (fun hb hc => ?_) (fun hb hc => ?_) (fun hb hc => ?_)
    | ((with_reducible refine oGb ?_); refine oIb (fun hb => ?_) (fun hb => ?_))
    | ((with_reducible refine oGi ?_); first | refine oT (h := ?_) | refine oF' (h := ?_) | refine oI (fun hb hc => ?_) (fun hb hc => ?_))
    | with_reducible refine simO_let ?_
    | refine simO_nil ?_
    | ((with_reducible refine gC ?_); first
     | refine oC true (hh := fun t ht => nat_used.holds _ _ t ht) (h := fun t => ?_)
     | refine oC true (hh := fun t ht => cmp_Compare_int.holds _ _ t ht) (h := fun t => ?_)
     | refine oC true (hh := fun t ht => cmp_Compare_uint32.holds _ _ t ht) (h := fun t => ?_)
     | fail)
    | refine oV (h := ?_)
    | refine oKu (h := ?_)
    | refine oS (h := ?_)
    | refine oN (h := ?_)
    | refine oA (h := ?_)
    | fail)
   | ((with_reducible refine gL ?_); first
    | refine lC [] [] []
    | refine lNilF 0 1 (.int .u32 0) (h := ?_)
    | refine lNilF 1 1 (.int .u32 0) (h := ?_)
    | fail)
   | fail

theorem nat_at.holds {mx : Int} (l0 : List Int) (a1 : Int) (r : Int) (h : nat_at.f l0 a1 = some r) : Holds Tryz.prog (G0 mx) 112 [] [.sl 1 (.int .u32 0) (l0.map (AV.int .u32)), .int .i64 a1] (.int .u32 r) [] := by
  refine holds_of_sim (fun (r : Int) => (.int .u32 r, [])) h Tryz.func112 rfl (by kernel_rfl) 13 rfl (by simp) (by simp) [(0, .sl 1 (.int .u32 0) (l0.map (AV.int .u32))), (1, .int .i64 a1)] rfl [] rfl [.tmp 4] rfl ?_
  clear h
  unfold nat_at.f
  refine sim_mk ?_
  repeat' first
   | ((with_reducible refine gS ?_); first
    | with_reducible refine sim_seq ?_
    | with_reducible refine sim_block ?_
    | with_reducible refine sim_skip ?_
    | with_reducible refine sim_inBlock ?_
    | with_reducible exact sim_none
    | refine sR (h := ?_)
    | refine sX (h := ?_)
    | refine sD (hm := by exact mixed) (h := ?_)
    | ((with_reducible refine sGb ?_); first | refine sTe (h := ?_) | refine sFd (h := ?_) | refine sTb (h := ?_) | refine sFb (h := ?_))
    | with_reducible refine sBd (fun hb hc => ?_) (fun hb hc => ?_) (fun hb hc => ?_) (fun hb hc => ?_)
    | ((with_reducible refine sGb ?_); refine sIb (fun hb => ?_) (fun hb => ?_))
    | ((with_reducible refine sGi ?_); first | refine sT (h := ?_) | refine sF' (h := ?_) | refine sI (fun hb hc => ?_) (fun hb hc => ?_))
    | with_reducible refine sim_let ?_
    | refine sY (h := ?_)
    | refine sN (h := ?_)
    | refine sF [] false
    | refine sFe [] false
    | fail)
   | ((with_reducible refine gO ?_); first
    | with_reducible exact simO_none
    | ((with_reducible refine oGb ?_); first | refine oTe (h := ?_) | refine oFd (h := ?_) | refine oTb (h := ?_) | refine oFb (h := ?_))
    | with_reducible refine oBd (fun hb hc => ?_) (fun hb hc => ?_) (fun hb hc => ?_) (fun hb hc => ?_)
    | ((with_reducible refine oGb ?_); refine oIb (fun hb => ?_) (fun hb => ?_))
    | ((with_reducible refine oGi ?_); first | refine oT (h := ?_) | refine oF' (h := ?_) | refine oI (fun hb hc => ?_) (fun hb hc => ?_))
    | with_reducible refine simO_let ?_
    | refine simO_nil ?_
    | refine oV (h := ?_)
    | refine oKu (h := ?_)
    | refine oS (h := ?_)
    | refine oN (h := ?_)
    | refine oA (h := ?_)
    | fail)
   | fail

theorem nat_Sub.holds {mx : Int} (k : Nat) (l0 : List Int) (l1 : List Int) (r : List Int × Bool) (h : nat_Sub.f k l0 l1 = some r) : Holds Tryz.prog (G0 mx) 133 [] [.sl 1 (.int .u32 0) (l0.map (AV.int .u32)), .sl 1 (.int .u32 0) (l1.map (AV.int .u32))] (.tup [.own 0 0 r.1.length, .bool r.2]) [⟨86, 1, (.int .u32 0), r.1.map (AV.int .u32)⟩] := by
  refine holds_of_sim (fun (r : List Int × Bool) => (.tup [.own 0 0 r.1.length, .bool r.2], [⟨86, 1, (.int .u32 0), r.1.map (AV.int .u32)⟩])) h Tryz.func133 rfl (by kernel_rfl) 38 rfl (by simp) (by simp) [(0, .sl 1 (.int .u32 0) (l0.map (AV.int .u32))), (1, .sl 1 (.int .u32 0) (l1.map (AV.int .u32)))] rfl [] rfl [.tmp 4, .tmp 5] rfl ?_
  clear h
  unfold nat_Sub.f
  refine sim_mk ?_
  repeat' first
   | ((with_reducible refine gS ?_); first
    | with_reducible refine sim_seq ?_
    | with_reducible refine sim_block ?_
    | with_reducible refine sim_skip ?_
    | with_reducible refine sim_inBlock ?_
    | with_reducible exact sim_none
    | refine sR (h := ?_)
    | refine sX (h := ?_)
    | refine sD (hm := by exact mixed) (h := ?_)
    | ((with_reducible refine sGb ?_); first | refine sTe (h := ?_) | refine sFd (h := ?_) | refine sTb (h := ?_) | refine sFb (h := ?_))
    | with_reducible refine sBd (fun hb hc => ?_) (fun hb hc => ?_) (fun hb hc => ?_) (fun hb hc => ?_)
    | ((with_reducible refine sGb ?_); refine sIb (fun hb => ?_) (fun hb => ?_))
    | ((with_reducible refine sGi ?_); first | refine sT (h := ?_) | refine sF' (h := ?_) | refine sI (fun hb hc => ?_) (fun hb hc => ?_))
    | with_reducible refine sim_let ?_
    | refine sY (h := ?_)
    | refine sN (h := ?_)
    | refine IHl0.out _ (_, _, _, _, _) _ (by omega) ?_
    | (refine sim_loop (fun k (x : List Int × List Int × Int × Int × Int) => match x with | (x1, x6, x7, x16, x17) => nat_Sub.l0 k x1 x6 x7 x16 x17) (fun x => mkS [(1, .sl 1 (.int .u32 0) (x.1.map (AV.int .u32))), (6, .own 1006 0 x.2.1.length), (7, .int .u32 x.2.2.1), (16, .int .i64 x.2.2.2.1), (17, .int .i64 x.2.2.2.2)] ([] ++ [1006]) [⟨86, 1, (.int .u32 0), x.2.1.map (AV.int .u32)⟩]) _ (fun ⟨_, _, _, _, _⟩ => rfl) (fun k hkl0 IH x => ?_) ((_, _, _, _, _)) ?_; obtain ⟨x1, x6, x7, x16, x17⟩ := x; simp only [nat_Sub.l0]; have IHl0 := Hid.mk IH; clear IH; refine sim_mk ?_)
    | refine sF [] true
    | refine sFe [] true
    | refine sNil 4 3004 ⟨86, 1, (.int .u32 0), []⟩ (h := ?_)
    | fail)
   | ((with_reducible refine gO ?_); first
    | with_reducible exact simO_none
    | ((with_reducible refine oGb ?_); first | refine oTe (h := ?_) | refine oFd (h := ?_) | refine oTb (h := ?_) | refine oFb (h := ?_))
    | with_reducible refine oBd (fun hb hc => ?_) (fun hb hc => ?_) (fun hb hc => ?_) (fun hb hc => ?_)
    | ((with_reducible refine oGb ?_); refine oIb (fun hb => ?_) (fun hb => ?_))
    | ((with_reducible refine oGi ?_); first | refine oT (h := ?_) | refine oF' (h := ?_) | refine oI (fun hb hc => ?_) (fun hb hc => ?_))
    | with_reducible refine simO_let ?_
    | refine simO_nil ?_
    | ((with_reducible refine gC ?_); first
     | refine oC true (hh := fun t ht => nat_Trim.holds _ _ t ht) (h := fun t => ?_)
     | refine oC true (hh := fun t ht => nat_Cmp.holds _ _ _ t ht) (h := fun t => ?_)
     | refine oC true (hh := fun t ht => nat_at.holds _ _ t ht) (h := fun t => ?_)
     | refine oC true (hh := fun t ht => bits_Sub32.holds _ _ _ t ht) (h := fun t => ?_)
     | fail)
    | refine oV (h := ?_)
    | refine oKu (h := ?_)
    | refine oS (h := ?_)
    | refine oN (h := ?_)
    | refine oA (h := ?_)
    | fail)
   | ((with_reducible refine gL ?_); first
    | refine lC [] [6] [1006]
    | (refine lTr 6 (h := ?_); refine lC [] [6] [1006])
    | refine lNil 6 2006 ⟨86, 1, (.int .u32 0), []⟩ (h := ?_)
    | refine lNilF 1 1 (.int .u32 0) (h := ?_)
    | fail)
   | fail

theorem nat_Add.holds {mx : Int} (k : Nat) (l0 : List Int) (l1 : List Int) (r : List Int) (h : nat_Add.f k l0 l1 = some r) : Holds Tryz.prog (G0 mx) 55 [] [.sl 1 (.int .u32 0) (l0.map (AV.int .u32)), .sl 1 (.int .u32 0) (l1.map (AV.int .u32))] (.own 0 0 r.length) [⟨86, 1, (.int .u32 0), r.map (AV.int .u32)⟩] := by
  refine holds_of_sim (fun (r : List Int) => (.own 0 0 r.length, [⟨86, 1, (.int .u32 0), r.map (AV.int .u32)⟩])) h Tryz.func55 rfl (by kernel_rfl) 40 rfl (by simp) (by simp) [(0, .sl 1 (.int .u32 0) (l0.map (AV.int .u32))), (1, .sl 1 (.int .u32 0) (l1.map (AV.int .u32)))] rfl [] rfl [.tmp 4] rfl ?_
  clear h
  unfold nat_Add.f
  refine sim_mk ?_
  repeat' first
   | ((with_reducible refine gS ?_); first
    | with_reducible refine sim_seq ?_
    | with_reducible refine sim_block ?_
    | with_reducible refine sim_skip ?_
    | with_reducible refine sim_inBlock ?_
    | with_reducible exact sim_none
    | refine sR (h := ?_)
    | refine sX (h := ?_)
    | refine sD (hm := by exact mixed) (h := ?_)
    | ((with_reducible refine sGb ?_); first | refine sTe (h := ?_) | refine sFd (h := ?_) | refine sTb (h := ?_) | refine sFb (h := ?_))
    | with_reducible refine sBd (fun hb hc => ?_) (fun hb hc => ?_) (fun hb hc => ?_) (fun hb hc => ?_)
    | ((with_reducible refine sGb ?_); refine sIb (fun hb => ?_) (fun hb => ?_))
    | ((with_reducible refine sGi ?_); first | refine sT (h := ?_) | refine sF' (h := ?_) | refine sI (fun hb hc => ?_) (fun hb hc => ?_))
    | with_reducible refine sim_let ?_
    | refine sY (h := ?_)
    | refine sN (h := ?_)
    | refine IHl0.out _ (_, _, _, _, _, _) _ (by omega) ?_
    | (refine sim_loop (fun k (x : List Int × List Int × List Int × Int × Int × Int) => match x with | (x0, x1, x5, x6, x19, x20) => nat_Add.l0 k x0 x1 x5 x6 x19 x20) (fun x => mkS [(0, .sl 1 (.int .u32 0) (x.1.map (AV.int .u32))), (1, .sl 1 (.int .u32 0) (x.2.1.map (AV.int .u32))), (5, .own 1005 0 x.2.2.1.length), (6, .int .u32 x.2.2.2.1), (19, .int .i64 x.2.2.2.2.1), (20, .int .i64 x.2.2.2.2.2)] ([] ++ [1005]) [⟨86, 1, (.int .u32 0), x.2.2.1.map (AV.int .u32)⟩]) _ (fun ⟨_, _, _, _, _, _⟩ => rfl) (fun k hkl0 IH x => ?_) ((_, _, _, _, _, _)) ?_; obtain ⟨x0, x1, x5, x6, x19, x20⟩ := x; simp only [nat_Add.l0]; have IHl0 := Hid.mk IH; clear IH; refine sim_mk ?_)
    | refine sF [] true
    | refine sFe [] true
    | refine sNil 4 3004 ⟨86, 1, (.int .u32 0), []⟩ (h := ?_)
    | fail)
   | ((with_reducible refine gO ?_); first
    | with_reducible exact simO_none
    | ((with_reducible refine oGb ?_); first | refine oTe (h := ?_) | refine oFd (h := ?_) | refine oTb (h := ?_) | refine oFb (h := ?_))
    | with_reducible refine oBd (fun hb hc => ?_) (fun hb hc => ?_) (fun hb hc => ?_) (fun hb hc => ?_)
    | ((with_reducible refine oGb ?_); refine oIb (fun hb => ?_) (fun hb => ?_))
    | ((with_reducible refine oGi ?_); first | refine oT (h := ?_) | refine oF' (h := ?_) | refine oI (fun hb hc => ?_) (fun hb hc => ?_))
    | with_reducible refine simO_let ?_
    | refine simO_nil ?_
    | ((with_reducible refine gC ?_); first
     | refine oC true (hh := fun t ht => nat_Trim.holds _ _ t ht) (h := fun t => ?_)
     | refine oC true (hh := fun t ht => nat_used.holds _ _ t ht) (h := fun t => ?_)
     | refine oC true (hh := fun t ht => bits_Add32.holds _ _ _ t ht) (h := fun t => ?_)
     | refine oC true (hh := fun t ht => nat_at.holds _ _ t ht) (h := fun t => ?_)
     | fail)
    | refine oV (h := ?_)
    | refine oKu (h := ?_)
    | refine oS (h := ?_)
    | refine oN (h := ?_)
    | refine oA (h := ?_)
    | fail)
   | ((with_reducible refine gL ?_); first
    | refine lC [] [5] [1005]
    | (refine lTr 5 (h := ?_); refine lC [] [5] [1005])
    | refine lNil 5 2005 ⟨86, 1, (.int .u32 0), []⟩ (h := ?_)
    | refine lNilF 0 1 (.int .u32 0) (h := ?_)
    | refine lNilF 1 1 (.int .u32 0) (h := ?_)
    | fail)
   | fail

theorem nat_Bit.holds {mx : Int} (l0 : List Int) (a1 : Int) (r : Bool) (h : nat_Bit.f l0 a1 = some r) : Holds Tryz.prog (G0 mx) 83 [] [.sl 1 (.int .u32 0) (l0.map (AV.int .u32)), .int .i64 a1] (.bool r) [] := by
  refine holds_of_sim (fun (r : Bool) => (.bool r, [])) h Tryz.func83 rfl (by kernel_rfl) 26 rfl (by simp) (by simp) [(0, .sl 1 (.int .u32 0) (l0.map (AV.int .u32))), (1, .int .i64 a1)] rfl [] rfl [.tmp 4] rfl ?_
  clear h
  unfold nat_Bit.f
  refine sim_mk ?_
  repeat' first
   | ((with_reducible refine gS ?_); first
    | with_reducible refine sim_seq ?_
    | with_reducible refine sim_block ?_
    | with_reducible refine sim_skip ?_
    | with_reducible refine sim_inBlock ?_
    | with_reducible exact sim_none
    | refine sR (h := ?_)
    | refine sX (h := ?_)
    | refine sD (hm := by exact mixed) (h := ?_)
    | ((with_reducible refine sGb ?_); first | refine sTe (h := ?_) | refine sFd (h := ?_) | refine sTb (h := ?_) | refine sFb (h := ?_))
    | with_reducible refine sBd (fun hb hc => ?_) (fun hb hc => ?_) (fun hb hc => ?_) (fun hb hc => ?_)
    | ((with_reducible refine sGb ?_); refine sIb (fun hb => ?_) (fun hb => ?_))
    | ((with_reducible refine sGi ?_); first | refine sT (h := ?_) | refine sF' (h := ?_) | refine sI (fun hb hc => ?_) (fun hb hc => ?_))
    | with_reducible refine sim_let ?_
    | refine sY (h := ?_)
    | refine sN (h := ?_)
    | refine sF [] false
    | refine sFe [] false
    | fail)
   | ((with_reducible refine gO ?_); first
    | with_reducible exact simO_none
    | ((with_reducible refine oGb ?_); first | refine oTe (h := ?_) | refine oFd (h := ?_) | refine oTb (h := ?_) | refine oFb (h := ?_))
    | with_reducible refine oBd (fun hb hc => ?_) (fun hb hc => ?_) (fun hb hc => ?_) (fun hb hc => ?_)
    | ((with_reducible refine oGb ?_); refine oIb (fun hb => ?_) (fun hb => ?_))
    | ((with_reducible refine oGi ?_); first | refine oT (h := ?_) | refine oF' (h := ?_) | refine oI (fun hb hc => ?_) (fun hb hc => ?_))
    | with_reducible refine simO_let ?_
    | refine simO_nil ?_
    | refine oV (h := ?_)
    | refine oVg (h := ?_)
    | refine oKg (h := ?_)
    | refine oKu (h := ?_)
    | refine oS (h := ?_)
    | refine oN (h := ?_)
    | refine oNg (h := ?_)
    | refine oA (h := ?_)
    | fail)
   | fail

end Go.Proofs.YtjgmmaeafodpmaaGreatDoor.P
