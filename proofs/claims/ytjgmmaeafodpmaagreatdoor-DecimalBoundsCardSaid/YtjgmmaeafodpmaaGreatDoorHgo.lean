/- Contracts: each Go function of a package comes to its plain function. -/
import Derived.Test.YtjgmmaeafodpmaaGreatDoorMb
import Derived.Test.YtjgmmaeafodpmaaGreatDoorMx
import Derived.Test.YtjgmmaeafodpmaaGreatDoorShelf
set_option linter.unusedVariables false
set_option linter.unusedSimpArgs false
set_option maxRecDepth 100000
set_option maxHeartbeats 8000000
namespace Go.Proofs.YtjgmmaeafodpmaaGreatDoor.P
open Go Go.RowKit Go.Proofs.YtjgmmaeafodpmaaGreatDoor.Am Go.Proofs.YtjgmmaeafodpmaaGreatDoorW.PrintWords Go.Proofs.YtjgmmaeafodpmaaGreatDoorW.PrintMore
attribute [local irreducible] cpy rd bt strOfNums ByteArray.extract
theorem bits_Len32.holds {mx : Int} (a0 : Int) (r : Int) (h : bits_Len32.f a0 = some r) : Holds Tryz.prog (G0 mx) 136 [] [.int .u32 a0] (.int .i64 r) [] := by
  refine holds_of_sim (fun (r : Int) => (.int .i64 r, [])) h Tryz.func136 rfl (by kernel_rfl) 19 rfl (by simp) (by simp) [(0, .int .u32 a0)] rfl [] rfl [.tmp 2] rfl ?_
  clear h
  unfold bits_Len32.f
  refine sim_mk ?_
  rw [show (⟨(([0, 1, 2, 2, 3, 3, 3, 3, 4, 4, 4, 4, 4, 4, 4, 4, 5, 5, 5, 5, 5, 5, 5, 5, 5, 5, 5, 5, 5, 5, 5, 5, 6, 6, 6, 6, 6, 6, 6, 6, 6, 6, 6, 6, 6, 6, 6, 6, 6, 6, 6, 6, 6, 6, 6, 6, 6, 6, 6, 6, 6, 6, 6, 6].append [7, 7, 7, 7, 7, 7, 7, 7, 7, 7, 7, 7, 7, 7, 7, 7, 7, 7, 7, 7, 7, 7, 7, 7, 7, 7, 7, 7, 7, 7, 7, 7, 7, 7, 7, 7, 7, 7, 7, 7, 7, 7, 7, 7, 7, 7, 7, 7, 7, 7, 7, 7, 7, 7, 7, 7, 7, 7, 7, 7, 7, 7, 7, 7]).append ([8, 8, 8, 8, 8, 8, 8, 8, 8, 8, 8, 8, 8, 8, 8, 8, 8, 8, 8, 8, 8, 8, 8, 8, 8, 8, 8, 8, 8, 8, 8, 8, 8, 8, 8, 8, 8, 8, 8, 8, 8, 8, 8, 8, 8, 8, 8, 8, 8, 8, 8, 8, 8, 8, 8, 8, 8, 8, 8, 8, 8, 8, 8, 8].append [8, 8, 8, 8, 8, 8, 8, 8, 8, 8, 8, 8, 8, 8, 8, 8, 8, 8, 8, 8, 8, 8, 8, 8, 8, 8, 8, 8, 8, 8, 8, 8, 8, 8, 8, 8, 8, 8, 8, 8, 8, 8, 8, 8, 8, 8, 8, 8, 8, 8, 8, 8, 8, 8, 8, 8, 8, 8, 8, 8, 8, 8, 8, 8])).toArray⟩ : ByteArray) = len8_ from rfl]
  have hs8 : (len8_.size : Int) = 256 := rfl
  generalize len8_ = T8 at hs8 ⊢
  have hw1 : wrap64 (16 + 8) = 16 + 8 := by unfold wrap64; omega
  have hw2 : wrap64 (0 + 8) = 0 + 8 := by unfold wrap64; omega
  repeat' first
   | ((with_reducible refine gS ?_); first
    | with_reducible refine sim_seq ?_
    | with_reducible refine sim_block ?_
    | with_reducible refine sim_skip ?_
    | with_reducible refine sim_inBlock ?_
    | with_reducible exact sim_none
    | refine sR (h := ?_)
    | refine sX (h := ?_)
    | refine sD (hm := by exact mixed) (h := ?_)
    | ((with_reducible refine sGb ?_); first | refine sTe (h := ?_) | refine sFd (h := ?_) | refine sTb (h := ?_) | refine sFb (h := ?_))
    | with_reducible refine sBd (fun hb hc => ?_) (fun hb hc => ?_) (fun hb hc => ?_) (fun hb hc => ?_)
    | ((with_reducible refine sGb ?_); refine sIb (fun hb => ?_) (fun hb => ?_))
    | ((with_reducible refine sGi ?_); first | refine sT (h := ?_) | refine sF' (h := ?_) | refine sI (fun hb hc => ?_) (fun hb hc => ?_))
    | with_reducible refine sim_let ?_
    | refine sY (h := ?_)
    | refine sN (h := ?_)
    | refine sF [] false
    | refine sFe [] false
    | fail)
   | ((with_reducible refine gO ?_); first
    | with_reducible exact simO_none
    | ((with_reducible refine oGb ?_); first | refine oTe (h := ?_) | refine oFd (h := ?_) | refine oTb (h := ?_) | refine oFb (h := ?_))
    | with_reducible refine oBd (fun hb hc => ?_) (fun hb hc => ?_) (fun hb hc => ?_) (fun hb hc => ?_)
    | ((with_reducible refine oGb ?_); refine oIb (fun hb => ?_) (fun hb => ?_))
    | ((with_reducible refine oGi ?_); first | refine oT (h := ?_) | refine oF' (h := ?_) | refine oI (fun hb hc => ?_) (fun hb hc => ?_))
    | with_reducible refine simO_let ?_
    | refine simO_nil ?_
    | refine oV (h := ?_)
    | refine oKu (h := ?_)
    | refine oS (h := ?_)
    | refine oN (h := ?_)
    | refine oA (h := ?_)
    | fail)
   | fail

theorem bits_LeadingZeros32.holds {mx : Int} (a0 : Int) (r : Int) (h : bits_LeadingZeros32.f a0 = some r) : Holds Tryz.prog (G0 mx) 104 [] [.int .u32 a0] (.int .i64 r) [] := by
  refine holds_of_sim (fun (r : Int) => (.int .i64 r, [])) h Tryz.func104 rfl (by kernel_rfl) 6 rfl (by simp) (by simp) [(0, .int .u32 a0)] rfl [] rfl [.tmp 2] rfl ?_
  clear h
  unfold bits_LeadingZeros32.f
  refine sim_mk ?_
  repeat' first
   | ((with_reducible refine gS ?_); first
    | with_reducible refine sim_seq ?_
    | with_reducible refine sim_block ?_
    | with_reducible refine sim_skip ?_
    | with_reducible refine sim_inBlock ?_
    | with_reducible exact sim_none
    | refine sR (h := ?_)
    | refine sX (h := ?_)
    | refine sD (hm := by exact mixed) (h := ?_)
    | ((with_reducible refine sGb ?_); first | refine sTe (h := ?_) | refine sFd (h := ?_) | refine sTb (h := ?_) | refine sFb (h := ?_))
    | with_reducible refine sBd (fun hb hc => ?_) (fun hb hc => ?_) (fun hb hc => ?_) (fun hb hc => ?_)
    | ((with_reducible refine sGb ?_); refine sIb (fun hb => ?_) (fun hb => ?_))
    | ((with_reducible refine sGi ?_); first | refine sT (h := ?_) | refine sF' (h := ?_) | refine sI (fun hb hc => ?_) (fun hb hc => ?_))
    | with_reducible refine sim_let ?_
    | refine sY (h := ?_)
    | refine sN (h := ?_)
    | refine sF [] false
    | refine sFe [] false
    | fail)
   | ((with_reducible refine gO ?_); first
    | with_reducible exact simO_none
    | ((with_reducible refine oGb ?_); first | refine oTe (h := ?_) | refine oFd (h := ?_) | refine oTb (h := ?_) | refine oFb (h := ?_))
    | with_reducible refine oBd (fun hb hc => ?_) (fun hb hc => ?_) (fun hb hc => ?_) (fun hb hc => ?_)
    | ((with_reducible refine oGb ?_); refine oIb (fun hb => ?_) (fun hb => ?_))
    | ((with_reducible refine oGi ?_); first | refine oT (h := ?_) | refine oF' (h := ?_) | refine oI (fun hb hc => ?_) (fun hb hc => ?_))
    | with_reducible refine simO_let ?_
    | refine simO_nil ?_
    | ((with_reducible refine gC ?_); first
     | refine oC true (hh := fun t ht => bits_Len32.holds _ t ht) (h := fun t => ?_)
     | fail)
    | refine oV (h := ?_)
    | refine oKu (h := ?_)
    | refine oS (h := ?_)
    | refine oN (h := ?_)
    | refine oA (h := ?_)
    | fail)
   | fail

theorem cmp_isNaN_int.holds {mx : Int} (a0 : Int) (r : Bool) (h : cmp_isNaN_int.f a0 = some r) : Holds Tryz.prog (G0 mx) 149 [] [.int .i64 a0] (.bool r) [] := by
  refine holds_of_sim (fun (r : Bool) => (.bool r, [])) h Tryz.func149 rfl (by kernel_rfl) 6 rfl (by simp) (by simp) [(0, .int .i64 a0)] rfl [] rfl [.tmp 2] rfl ?_
  clear h
  unfold cmp_isNaN_int.f
  refine sim_mk ?_
  repeat' first
   | ((with_reducible refine gS ?_); first
    | with_reducible refine sim_seq ?_
    | with_reducible refine sim_block ?_
    | with_reducible refine sim_skip ?_
    | with_reducible refine sim_inBlock ?_
    | with_reducible exact sim_none
    | refine sR (h := ?_)
    | refine sX (h := ?_)
    | refine sD (hm := by exact mixed) (h := ?_)
    | ((with_reducible refine sGb ?_); first | refine sTe (h := ?_) | refine sFd (h := ?_) | refine sTb (h := ?_) | refine sFb (h := ?_))
    | with_reducible refine sIn (fun hb => ?_) (fun hb => ?_)
    | with_reducible refine sBd (fun hb hc => ?_) (fun hb hc => ?_) (fun hb hc => ?_) (fun hb hc => ?_)
    | ((with_reducible refine sGb ?_); refine sIb (fun hb => ?_) (fun hb => ?_))
    | ((with_reducible refine sGi ?_); first | refine sT (h := ?_) | refine sF' (h := ?_) | refine sI (fun hb hc => ?_) (fun hb hc => ?_))
    | with_reducible refine sim_let ?_
    | refine sY (h := ?_)
    | refine sN (h := ?_)
    | refine sF [] false
    | refine sFe [] false
    | fail)
   | ((with_reducible refine gO ?_); first
    | with_reducible exact simO_none
    | ((with_reducible refine oGb ?_); first | refine oTe (h := ?_) | refine oFd (h := ?_) | refine oTb (h := ?_) | refine oFb (h := ?_))
    | with_reducible refine oIn (fun hb => ?_) (fun hb => ?_)
    | with_reducible refine oBd (fun hb hc => ?_) (fun hb hc => ?_) (fun hb hc => ?_) (fun hb hc => ?_)
    | ((with_reducible refine oGb ?_); refine oIb (fun hb => ?_) (fun hb => ?_))
    | ((with_reducible refine oGi ?_); first | refine oT (h := ?_) | refine oF' (h := ?_) | refine oI (fun hb hc => ?_) (fun hb hc => ?_))
    | with_reducible refine simO_let ?_
    | refine simO_nil ?_
    | refine oV (h := ?_)
    | refine oKu (h := ?_)
    | refine oS (h := ?_)
    | refine oN (h := ?_)
    | refine oA (h := ?_)
    | fail)
   | fail

theorem cmp_Compare_int.holds {mx : Int} (a0 : Int) (a1 : Int) (r : Int) (h : cmp_Compare_int.f a0 a1 = some r) : Holds Tryz.prog (G0 mx) 134 [] [.int .i64 a0, .int .i64 a1] (.int .i64 r) [] := by
  refine holds_of_sim (fun (r : Int) => (.int .i64 r, [])) h Tryz.func134 rfl (by kernel_rfl) 20 rfl (by simp) (by simp) [(0, .int .i64 a0), (1, .int .i64 a1)] rfl [] rfl [.tmp 4] rfl ?_
  clear h
  unfold cmp_Compare_int.f
  refine sim_mk ?_
  repeat' first
   | ((with_reducible refine gS ?_); first
    | with_reducible refine sim_seq ?_
    | with_reducible refine sim_block ?_
    | with_reducible refine sim_skip ?_
    | with_reducible refine sim_inBlock ?_
    | with_reducible exact sim_none
    | refine sR (h := ?_)
    | refine sX (h := ?_)
    | refine sD (hm := by exact mixed) (h := ?_)
    | ((with_reducible refine sGb ?_); first | refine sTe (h := ?_) | refine sFd (h := ?_) | refine sTb (h := ?_) | refine sFb (h := ?_))
    | with_reducible refine sBd (fun hb hc => ?_) (fun hb hc => ?_) (fun hb hc => ?_) (fun hb hc => ?_)
    | ((with_reducible refine sGb ?_); refine sIb (fun hb => ?_) (fun hb => ?_))
    | ((with_reducible refine sGi ?_); first | refine sT (h := ?_) | refine sF' (h := ?_) | refine sI (fun hb hc => ?_) (fun hb hc => ?_))
    | with_reducible refine sim_let ?_
    | refine sY (h := ?_)
    | refine sN (h := ?_)
    | refine sF [] false
    | refine sFe [] false
    | fail)
   | ((with_reducible refine gO ?_); first
    | with_reducible exact simO_none
    | ((with_reducible refine oGb ?_); first | refine oTe (h := ?_) | refine oFd (h := ?_) | refine oTb (h := ?_) | refine oFb (h := ?_))
    | with_reducible refine oBd (fun hb hc => ?_) (fun hb hc => ?_) (fun hb hc => ?_) (fun hb hc => ?_)
    | ((with_reducible refine oGb ?_); refine oIb (fun hb => ?_) (fun hb => ?_))
    | ((with_reducible refine oGi ?_); first | refine oT (h := ?_) | refine oF' (h := ?_) | refine oI (fun hb hc => ?_) (fun hb hc => ?_))
    | with_reducible refine simO_let ?_
    | refine simO_nil ?_
    | ((with_reducible refine gC ?_); first
     | refine oC true (hh := fun t ht => cmp_isNaN_int.holds _ t ht) (h := fun t => ?_)
     | fail)
    | refine oV (h := ?_)
    | refine oKu (h := ?_)
    | refine oS (h := ?_)
    | refine oN (h := ?_)
    | refine oA (h := ?_)
    | fail)
   | fail

theorem cmp_isNaN_uint32.holds {mx : Int} (a0 : Int) (r : Bool) (h : cmp_isNaN_uint32.f a0 = some r) : Holds Tryz.prog (G0 mx) 150 [] [.int .u32 a0] (.bool r) [] := by
  refine holds_of_sim (fun (r : Bool) => (.bool r, [])) h Tryz.func150 rfl (by kernel_rfl) 6 rfl (by simp) (by simp) [(0, .int .u32 a0)] rfl [] rfl [.tmp 2] rfl ?_
  clear h
  unfold cmp_isNaN_uint32.f
  refine sim_mk ?_
  repeat' first
   | ((with_reducible refine gS ?_); first
    | with_reducible refine sim_seq ?_
    | with_reducible refine sim_block ?_
    | with_reducible refine sim_skip ?_
    | with_reducible refine sim_inBlock ?_
    | with_reducible exact sim_none
    | refine sR (h := ?_)
    | refine sX (h := ?_)
    | refine sD (hm := by exact mixed) (h := ?_)
    | ((with_reducible refine sGb ?_); first | refine sTe (h := ?_) | refine sFd (h := ?_) | refine sTb (h := ?_) | refine sFb (h := ?_))
    | with_reducible refine sIn (fun hb => ?_) (fun hb => ?_)
    | with_reducible refine sBd (fun hb hc => ?_) (fun hb hc => ?_) (fun hb hc => ?_) (fun hb hc => ?_)
    | ((with_reducible refine sGb ?_); refine sIb (fun hb => ?_) (fun hb => ?_))
    | ((with_reducible refine sGi ?_); first | refine sT (h := ?_) | refine sF' (h := ?_) | refine sI (fun hb hc => ?_) (fun hb hc => ?_))
    | with_reducible refine sim_let ?_
    | refine sY (h := ?_)
    | refine sN (h := ?_)
    | refine sF [] false
    | refine sFe [] false
    | fail)
   | ((with_reducible refine gO ?_); first
    | with_reducible exact simO_none
    | ((with_reducible refine oGb ?_); first | refine oTe (h := ?_) | refine oFd (h := ?_) | refine oTb (h := ?_) | refine oFb (h := ?_))
    | with_reducible refine oIn (fun hb => ?_) (fun hb => ?_)
    | with_reducible refine oBd (fun hb hc => ?_) (fun hb hc => ?_) (fun hb hc => ?_) (fun hb hc => ?_)
    | ((with_reducible refine oGb ?_); refine oIb (fun hb => ?_) (fun hb => ?_))
    | ((with_reducible refine oGi ?_); first | refine oT (h := ?_) | refine oF' (h := ?_) | refine oI (fun hb hc => ?_) (fun hb hc => ?_))
    | with_reducible refine simO_let ?_
    | refine simO_nil ?_
    | refine oV (h := ?_)
    | refine oKu (h := ?_)
    | refine oS (h := ?_)
    | refine oN (h := ?_)
    | refine oA (h := ?_)
    | fail)
   | fail

theorem cmp_Compare_uint32.holds {mx : Int} (a0 : Int) (a1 : Int) (r : Int) (h : cmp_Compare_uint32.f a0 a1 = some r) : Holds Tryz.prog (G0 mx) 135 [] [.int .u32 a0, .int .u32 a1] (.int .i64 r) [] := by
  refine holds_of_sim (fun (r : Int) => (.int .i64 r, [])) h Tryz.func135 rfl (by kernel_rfl) 20 rfl (by simp) (by simp) [(0, .int .u32 a0), (1, .int .u32 a1)] rfl [] rfl [.tmp 4] rfl ?_
  clear h
  unfold cmp_Compare_uint32.f
  refine sim_mk ?_
  repeat' first
   | ((with_reducible refine gS ?_); first
    | with_reducible refine sim_seq ?_
    | with_reducible refine sim_block ?_
    | with_reducible refine sim_skip ?_
    | with_reducible refine sim_inBlock ?_
    | with_reducible exact sim_none
    | refine sR (h := ?_)
    | refine sX (h := ?_)
    | refine sD (hm := by exact mixed) (h := ?_)
    | ((with_reducible refine sGb ?_); first | refine sTe (h := ?_) | refine sFd (h := ?_) | refine sTb (h := ?_) | refine sFb (h := ?_))
    | with_reducible refine sBd (fun hb hc => ?_) (fun hb hc => ?_) (fun hb hc => ?_) (fun hb hc => ?_)
    | ((with_reducible refine sGb ?_); refine sIb (fun hb => ?_) (fun hb => ?_))
    | ((with_reducible refine sGi ?_); first | refine sT (h := ?_) | refine sF' (h := ?_) | refine sI (fun hb hc => ?_) (fun hb hc => ?_))
    | with_reducible refine sim_let ?_
    | refine sY (h := ?_)
    | refine sN (h := ?_)
    | refine sF [] false
    | refine sFe [] false
    | fail)
   | ((with_reducible refine gO ?_); first
    | with_reducible exact simO_none
    | ((with_reducible refine oGb ?_); first | refine oTe (h := ?_) | refine oFd (h := ?_) | refine oTb (h := ?_) | refine oFb (h := ?_))
    | with_reducible refine oBd (fun hb hc => ?_) (fun hb hc => ?_) (fun hb hc => ?_) (fun hb hc => ?_)
    | ((with_reducible refine oGb ?_); refine oIb (fun hb => ?_) (fun hb => ?_))
    | ((with_reducible refine oGi ?_); first | refine oT (h := ?_) | refine oF' (h := ?_) | refine oI (fun hb hc => ?_) (fun hb hc => ?_))
    | with_reducible refine simO_let ?_
    | refine simO_nil ?_
    | ((with_reducible refine gC ?_); first
     | refine oC true (hh := fun t ht => cmp_isNaN_uint32.holds _ t ht) (h := fun t => ?_)
     | fail)
    | refine oV (h := ?_)
    | refine oKu (h := ?_)
    | refine oS (h := ?_)
    | refine oN (h := ?_)
    | refine oA (h := ?_)
    | fail)
   | fail

theorem bits_Sub32.holds {mx : Int} (a0 : Int) (a1 : Int) (a2 : Int) (r : Int × Int) (h : bits_Sub32.f a0 a1 a2 = some r) : Holds Tryz.prog (G0 mx) 148 [] [.int .u32 a0, .int .u32 a1, .int .u32 a2] (.tup [.int .u32 r.1, .int .u32 r.2]) [] := by
  refine holds_of_sim (fun (r : Int × Int) => (.tup [.int .u32 r.1, .int .u32 r.2], [])) h Tryz.func148 rfl (by kernel_rfl) 25 rfl (by simp) (by simp) [(0, .int .u32 a0), (1, .int .u32 a1), (2, .int .u32 a2)] rfl [] rfl [.tmp 6, .tmp 7] rfl ?_
  clear h
  unfold bits_Sub32.f
  refine sim_mk ?_
  repeat' first
   | ((with_reducible refine gS ?_); first
    | with_reducible refine sim_seq ?_
    | with_reducible refine sim_block ?_
    | with_reducible refine sim_skip ?_
    | with_reducible refine sim_inBlock ?_
    | with_reducible exact sim_none
    | refine sR (h := ?_)
    | refine sX (h := ?_)
    | refine sD (hm := by exact mixed) (h := ?_)
    | ((with_reducible refine sGb ?_); first | refine sTe (h := ?_) | refine sFd (h := ?_) | refine sTb (h := ?_) | refine sFb (h := ?_))
    | with_reducible refine sBd (fun hb hc => ?_) (fun hb hc => ?_) (fun hb hc => ?_) (fun hb hc => ?_)
    | ((with_reducible refine sGb ?_); refine sIb (fun hb => ?_) (fun hb => ?_))
    | ((with_reducible refine sGi ?_); first | refine sT (h := ?_) | refine sF' (h := ?_) | refine sI (fun hb hc => ?_) (fun hb hc => ?_))
    | with_reducible refine sim_let ?_
    | refine sY (h := ?_)
    | refine sN (h := ?_)
    | refine sF [] false
    | refine sFe [] false
    | fail)
   | ((with_reducible refine gO ?_); first
    | with_reducible exact simO_none
    | ((with_reducible refine oGb ?_); first | refine oTe (h := ?_) | refine oFd (h := ?_) | refine oTb (h := ?_) | refine oFb (h := ?_))
    | with_reducible refine oBd (fun hb hc => ?_) (fun hb hc => ?_) (fun hb hc => ?_) (fun hb hc => ?_)
    | ((with_reducible refine oGb ?_); refine oIb (fun hb => ?_) (fun hb => ?_))
    | ((with_reducible refine oGi ?_); first | refine oT (h := ?_) | refine oF' (h := ?_) | refine oI (fun hb hc => ?_) (fun hb hc => ?_))
    | with_reducible refine simO_let ?_
    | refine simO_nil ?_
    | refine oV (h := ?_)
    | refine oKu (h := ?_)
    | refine oS (h := ?_)
    | refine oN (h := ?_)
    | refine oA (h := ?_)
    | fail)
   | fail

theorem bits_Add32.holds {mx : Int} (a0 : Int) (a1 : Int) (a2 : Int) (r : Int × Int) (h : bits_Add32.f a0 a1 a2 = some r) : Holds Tryz.prog (G0 mx) 111 [] [.int .u32 a0, .int .u32 a1, .int .u32 a2] (.tup [.int .u32 r.1, .int .u32 r.2]) [] := by
  refine holds_of_sim (fun (r : Int × Int) => (.tup [.int .u32 r.1, .int .u32 r.2], [])) h Tryz.func111 rfl (by kernel_rfl) 22 rfl (by simp) (by simp) [(0, .int .u32 a0), (1, .int .u32 a1), (2, .int .u32 a2)] rfl [] rfl [.tmp 6, .tmp 7] rfl ?_
  clear h
  unfold bits_Add32.f
  refine sim_mk ?_
  repeat' first
   | ((with_reducible refine gS ?_); first
    | with_reducible refine sim_seq ?_
    | with_reducible refine sim_block ?_
    | with_reducible refine sim_skip ?_
    | with_reducible refine sim_inBlock ?_
    | with_reducible exact sim_none
    | refine sR (h := ?_)
    | refine sX (h := ?_)
    | refine sD (hm := by exact mixed) (h := ?_)
    | ((with_reducible refine sGb ?_); first | refine sTe (h := ?_) | refine sFd (h := ?_) | refine sTb (h := ?_) | refine sFb (h := ?_))
    | with_reducible refine sBd (fun hb hc => ?_) (fun hb hc => ?_) (fun hb hc => ?_) (fun hb hc => ?_)
    | ((with_reducible refine sGb ?_); refine sIb (fun hb => ?_) (fun hb => ?_))
    | ((with_reducible refine sGi ?_); first | refine sT (h := ?_) | refine sF' (h := ?_) | refine sI (fun hb hc => ?_) (fun hb hc => ?_))
    | with_reducible refine sim_let ?_
    | refine sY (h := ?_)
    | refine sN (h := ?_)
    | refine sF [] false
    | refine sFe [] false
    | fail)
   | ((with_reducible refine gO ?_); first
    | with_reducible exact simO_none
    | ((with_reducible refine oGb ?_); first | refine oTe (h := ?_) | refine oFd (h := ?_) | refine oTb (h := ?_) | refine oFb (h := ?_))
    | with_reducible refine oBd (fun hb hc => ?_) (fun hb hc => ?_) (fun hb hc => ?_) (fun hb hc => ?_)
    | ((with_reducible refine oGb ?_); refine oIb (fun hb => ?_) (fun hb => ?_))
    | ((with_reducible refine oGi ?_); first | refine oT (h := ?_) | refine oF' (h := ?_) | refine oI (fun hb hc => ?_) (fun hb hc => ?_))
    | with_reducible refine simO_let ?_
    | refine simO_nil ?_
    | refine oV (h := ?_)
    | refine oKu (h := ?_)
    | refine oS (h := ?_)
    | refine oN (h := ?_)
    | refine oA (h := ?_)
    | fail)
   | fail

theorem bits_Div32.holds {mx : Int} (a0 : Int) (a1 : Int) (a2 : Int) (r : Int × Int) (h : bits_Div32.f a0 a1 a2 = some r) : Holds Tryz.prog (G0 mx) 147 [] [.int .u32 a0, .int .u32 a1, .int .u32 a2] (.tup [.int .u32 r.1, .int .u32 r.2]) [] := by
  refine holds_of_sim (fun (r : Int × Int) => (.tup [.int .u32 r.1, .int .u32 r.2], [])) h Tryz.func147 rfl (by kernel_rfl) 33 rfl (by simp) (by simp) [(0, .int .u32 a0), (1, .int .u32 a1), (2, .int .u32 a2)] rfl [] rfl [.tmp 6, .tmp 7] rfl ?_
  clear h
  unfold bits_Div32.f
  refine sim_mk ?_
  repeat' first
   | ((with_reducible refine gS ?_); first
    | with_reducible refine sim_seq ?_
    | with_reducible refine sim_block ?_
    | with_reducible refine sim_skip ?_
    | with_reducible refine sim_inBlock ?_
    | with_reducible exact sim_none
    | refine sR (h := ?_)
    | refine sX (h := ?_)
    | refine sD (hm := by exact mixed) (h := ?_)
    | ((with_reducible refine sGb ?_); first | refine sTe (h := ?_) | refine sFd (h := ?_) | refine sTb (h := ?_) | refine sFb (h := ?_))
    | with_reducible refine sBd (fun hb hc => ?_) (fun hb hc => ?_) (fun hb hc => ?_) (fun hb hc => ?_)
    | ((with_reducible refine sGb ?_); refine sIb (fun hb => ?_) (fun hb => ?_))
    | ((with_reducible refine sGi ?_); first | refine sT (h := ?_) | refine sF' (h := ?_) | refine sI (fun hb hc => ?_) (fun hb hc => ?_))
    | with_reducible refine sim_let ?_
    | refine sY (h := ?_)
    | refine sN (h := ?_)
    | refine sF [] false
    | refine sFe [] false
    | fail)
   | ((with_reducible refine gO ?_); first
    | with_reducible exact simO_none
    | ((with_reducible refine oGb ?_); first | refine oTe (h := ?_) | refine oFd (h := ?_) | refine oTb (h := ?_) | refine oFb (h := ?_))
    | with_reducible refine oBd (fun hb hc => ?_) (fun hb hc => ?_) (fun hb hc => ?_) (fun hb hc => ?_)
    | ((with_reducible refine oGb ?_); refine oIb (fun hb => ?_) (fun hb => ?_))
    | ((with_reducible refine oGi ?_); first | refine oT (h := ?_) | refine oF' (h := ?_) | refine oI (fun hb hc => ?_) (fun hb hc => ?_))
    | with_reducible refine simO_let ?_
    | refine simO_nil ?_
    | refine oV (h := ?_)
    | refine oVg (h := ?_)
    | refine oKg (h := ?_)
    | refine oKu (h := ?_)
    | refine oS (h := ?_)
    | refine oN (h := ?_)
    | refine oNg (h := ?_)
    | refine oA (h := ?_)
    | fail)
   | fail

theorem slices_Reverse_byte_byte.len_l : ∀ (k : Nat) (x0 : List Int) (x2 x3 : Int) (r : List Int), slices_Reverse_byte_byte.l0 k x0 x2 x3 = some r → r.length = x0.length
  | 0, _, _, _, _, h => by simp [slices_Reverse_byte_byte.l0] at h
  | k + 1, x0, x2, x3, r, h => by
    have ih := slices_Reverse_byte_byte.len_l k
    simp only [slices_Reverse_byte_byte.l0] at h
    repeat' split at h
    all_goals first | (cases h; done) | (injection h with h; subst h; rfl) | (have := ih _ _ _ _ h; simpa using this)
theorem slices_Reverse_byte_byte.len (k : Nat) (l0 r : List Int) (h : slices_Reverse_byte_byte.f k l0 = some r) : r.length = l0.length := slices_Reverse_byte_byte.len_l k l0 _ _ r h
theorem slices_Reverse_byte_byte.holds {mx : Int} (k : Nat) (l0 : List Int) (r : List Int) (h : slices_Reverse_byte_byte.f k l0 = some r) : Holds Tryz.prog (G0 mx) 128 [⟨5, 1, (.int .u8 0), l0.map (AV.int .u8)⟩] [.own 0 0 l0.length] (.tup []) [⟨5, 1, (.int .u8 0), r.map (AV.int .u8)⟩] := by
  refine holds_of_sim (fun (r : List Int) => (.tup [], [⟨5, 1, (.int .u8 0), r.map (AV.int .u8)⟩])) h Tryz.func128 rfl (by kernel_rfl) 28 rfl (by simp) (by simp) [(0, .own 0 0 l0.length)] rfl [0] rfl [] rfl ?_
  clear h
  unfold slices_Reverse_byte_byte.f
  refine sim_mk ?_
  repeat' first
   | ((with_reducible refine gS ?_); first
    | with_reducible refine sim_seq ?_
    | with_reducible refine sim_block ?_
    | with_reducible refine sim_skip ?_
    | with_reducible refine sim_inBlock ?_
    | with_reducible exact sim_none
    | refine sR (h := ?_)
    | refine sX (h := ?_)
    | refine sD (hm := by exact mixed) (h := ?_)
    | ((with_reducible refine sGb ?_); first | refine sTe (h := ?_) | refine sFd (h := ?_) | refine sTb (h := ?_) | refine sFb (h := ?_))
    | with_reducible refine sBd (fun hb hc => ?_) (fun hb hc => ?_) (fun hb hc => ?_) (fun hb hc => ?_)
    | ((with_reducible refine sGb ?_); refine sIb (fun hb => ?_) (fun hb => ?_))
    | ((with_reducible refine sGi ?_); first | refine sT (h := ?_) | refine sF' (h := ?_) | refine sI (fun hb hc => ?_) (fun hb hc => ?_))
    | with_reducible refine sim_let ?_
    | refine sY (h := ?_)
    | refine sN (h := ?_)
    | refine IHl0.out _ ⟨(_, _, _), by simp only [List.length_set, List.length_map]; exact hx.out⟩ _ (by omega) ?_
    | (refine sim_loop (fun k (x : {x : List Int × Int × Int // x.1.length = l0.length}) => slices_Reverse_byte_byte.l0 k x.1.1 x.1.2.1 x.1.2.2) (fun x => mkS [(0, .own 0 0 x.1.1.length), (2, .int .i64 x.1.2.1), (3, .int .i64 x.1.2.2)] ([0] ++ []) [⟨5, 1, (.int .u8 0), x.1.1.map (AV.int .u8)⟩]) _ (fun _ => rfl) (fun k hkl0 IH x => ?_) (⟨(_, _, _), rfl⟩) ?_; obtain ⟨⟨x0, x2, x3⟩, hx0⟩ := x; have hx : Kp (x0.length = l0.length) := ⟨hx0⟩; simp only [slices_Reverse_byte_byte.l0]; have IHl0 := Hid.mk IH; clear IH; clear hx0; refine sim_mk ?_)
    | refine sF [0] false (hlen := by have h := hx.out; simp [h])
    | refine sFe [0] false (hlen := by have h := hx.out; simp [h])
    | refine sF [0] false
    | refine sFe [0] false
    | fail)
   | ((with_reducible refine gO ?_); first
    | with_reducible exact simO_none
    | ((with_reducible refine oGb ?_); first | refine oTe (h := ?_) | refine oFd (h := ?_) | refine oTb (h := ?_) | refine oFb (h := ?_))
    | with_reducible refine oBd (fun hb hc => ?_) (fun hb hc => ?_) (fun hb hc => ?_) (fun hb hc => ?_)
    | ((with_reducible refine oGb ?_); refine oIb (fun hb => ?_) (fun hb => ?_))
    | ((with_reducible refine oGi ?_); first | refine oT (h := ?_) | refine oF' (h := ?_) | refine oI (fun hb hc => ?_) (fun hb hc => ?_))
    | with_reducible refine simO_let ?_
    | refine simO_nil ?_
    | refine oV (h := ?_)
    | refine oKu (h := ?_)
    | refine oS (h := ?_)
    | refine oN (h := ?_)
    | refine oA (h := ?_)
    | fail)
   | ((with_reducible refine gL ?_); first
    | refine lC [0] [] []
    | refine lNilF 0 1 (.int .u8 0) (h := ?_)
    | fail)
   | fail

theorem bits_Mul32.holds {mx : Int} (a0 : Int) (a1 : Int) (r : Int × Int) (h : bits_Mul32.f a0 a1 = some r) : Holds Tryz.prog (G0 mx) 156 [] [.int .u32 a0, .int .u32 a1] (.tup [.int .u32 r.1, .int .u32 r.2]) [] := by
  refine holds_of_sim (fun (r : Int × Int) => (.tup [.int .u32 r.1, .int .u32 r.2], [])) h Tryz.func156 rfl (by kernel_rfl) 17 rfl (by simp) (by simp) [(0, .int .u32 a0), (1, .int .u32 a1)] rfl [] rfl [.tmp 4, .tmp 5] rfl ?_
  clear h
  unfold bits_Mul32.f
  refine sim_mk ?_
  repeat' first
   | ((with_reducible refine gS ?_); first
    | with_reducible refine sim_seq ?_
    | with_reducible refine sim_block ?_
    | with_reducible refine sim_skip ?_
    | with_reducible refine sim_inBlock ?_
    | with_reducible exact sim_none
    | refine sR (h := ?_)
    | refine sX (h := ?_)
    | refine sD (hm := by exact mixed) (h := ?_)
    | ((with_reducible refine sGb ?_); first | refine sTe (h := ?_) | refine sFd (h := ?_) | refine sTb (h := ?_) | refine sFb (h := ?_))
    | with_reducible refine sBd (fun hb hc => ?_) (fun hb hc => ?_) (fun hb hc => ?_) (fun hb hc => ?_)
    | ((with_reducible refine sGb ?_); refine sIb (fun hb => ?_) (fun hb => ?_))
    | ((with_reducible refine sGi ?_); first | refine sT (h := ?_) | refine sF' (h := ?_) | refine sI (fun hb hc => ?_) (fun hb hc => ?_))
    | with_reducible refine sim_let ?_
    | refine sY (h := ?_)
    | refine sN (h := ?_)
    | refine sF [] false
    | refine sFe [] false
    | fail)
   | ((with_reducible refine gO ?_); first
    | with_reducible exact simO_none
    | ((with_reducible refine oGb ?_); first | refine oTe (h := ?_) | refine oFd (h := ?_) | refine oTb (h := ?_) | refine oFb (h := ?_))
    | with_reducible refine oBd (fun hb hc => ?_) (fun hb hc => ?_) (fun hb hc => ?_) (fun hb hc => ?_)
    | ((with_reducible refine oGb ?_); refine oIb (fun hb => ?_) (fun hb => ?_))
    | ((with_reducible refine oGi ?_); first | refine oT (h := ?_) | refine oF' (h := ?_) | refine oI (fun hb hc => ?_) (fun hb hc => ?_))
    | with_reducible refine simO_let ?_
    | refine simO_nil ?_
    | refine oV (h := ?_)
    | refine oKu (h := ?_)
    | refine oS (h := ?_)
    | refine oN (h := ?_)
    | refine oA (h := ?_)
    | fail)
   | fail

theorem bits_Mul64.holds {mx : Int} (a0 : Int) (a1 : Int) (r : Int × Int) (h : bits_Mul64.f a0 a1 = some r) : Holds Tryz.prog (G0 mx) 157 [] [.int .u64 a0, .int .u64 a1] (.tup [.int .u64 r.1, .int .u64 r.2]) [] := by
  refine holds_of_sim (fun (r : Int × Int) => (.tup [.int .u64 r.1, .int .u64 r.2], [])) h Tryz.func157 rfl (by kernel_rfl) 51 rfl (by simp) (by simp) [(0, .int .u64 a0), (1, .int .u64 a1)] rfl [] rfl [.tmp 4, .tmp 5] rfl ?_
  clear h
  unfold bits_Mul64.f
  refine sim_mk ?_
  repeat' first
   | ((with_reducible refine gS ?_); first
    | with_reducible refine sim_seq ?_
    | with_reducible refine sim_block ?_
    | with_reducible refine sim_skip ?_
    | with_reducible refine sim_inBlock ?_
    | with_reducible exact sim_none
    | refine sR (h := ?_)
    | refine sX (h := ?_)
    | refine sD (hm := by exact mixed) (h := ?_)
    | ((with_reducible refine sGb ?_); first | refine sTe (h := ?_) | refine sFd (h := ?_) | refine sTb (h := ?_) | refine sFb (h := ?_))
    | with_reducible refine sBd (fun hb hc => ?_) (fun hb hc => ?_) (fun hb hc => ?_) (fun hb hc => ?_)
    | ((with_reducible refine sGb ?_); refine sIb (fun hb => ?_) (fun hb => ?_))
    | ((with_reducible refine sGi ?_); first | refine sT (h := ?_) | refine sF' (h := ?_) | refine sI (fun hb hc => ?_) (fun hb hc => ?_))
    | with_reducible refine sim_let ?_
    | refine sY (h := ?_)
    | refine sN (h := ?_)
    | refine sF [] false
    | refine sFe [] false
    | fail)
   | ((with_reducible refine gO ?_); first
    | with_reducible exact simO_none
    | ((with_reducible refine oGb ?_); first | refine oTe (h := ?_) | refine oFd (h := ?_) | refine oTb (h := ?_) | refine oFb (h := ?_))
    | with_reducible refine oBd (fun hb hc => ?_) (fun hb hc => ?_) (fun hb hc => ?_) (fun hb hc => ?_)
    | ((with_reducible refine oGb ?_); refine oIb (fun hb => ?_) (fun hb => ?_))
    | ((with_reducible refine oGi ?_); first | refine oT (h := ?_) | refine oF' (h := ?_) | refine oI (fun hb hc => ?_) (fun hb hc => ?_))
    | with_reducible refine simO_let ?_
    | refine simO_nil ?_
    | refine oV (h := ?_)
    | refine oKu (h := ?_)
    | refine oS (h := ?_)
    | refine oN (h := ?_)
    | refine oA (h := ?_)
    | fail)
   | fail

theorem bits_Mul.holds {mx : Int} (a0 : Int) (a1 : Int) (r : Int × Int) (h : bits_Mul.f a0 a1 = some r) : Holds Tryz.prog (G0 mx) 141 [] [.int .u64 a0, .int .u64 a1] (.tup [.int .u64 r.1, .int .u64 r.2]) [] := by
  refine holds_of_sim (fun (r : Int × Int) => (.tup [.int .u64 r.1, .int .u64 r.2], [])) h Tryz.func141 rfl (by kernel_rfl) 30 rfl (by simp) (by simp) [(0, .int .u64 a0), (1, .int .u64 a1)] rfl [] rfl [.tmp 4, .tmp 5] rfl ?_
  clear h
  unfold bits_Mul.f
  refine sim_mk ?_
  repeat' first
   | ((with_reducible refine gS ?_); first
    | with_reducible refine sim_seq ?_
    | with_reducible refine sim_block ?_
    | with_reducible refine sim_skip ?_
    | with_reducible refine sim_inBlock ?_
    | with_reducible exact sim_none
    | refine sR (h := ?_)
    | refine sX (h := ?_)
    | refine sD (hm := by exact mixed) (h := ?_)
    | ((with_reducible refine sGb ?_); first | refine sTe (h := ?_) | refine sFd (h := ?_) | refine sTb (h := ?_) | refine sFb (h := ?_))
    | with_reducible refine sBd (fun hb hc => ?_) (fun hb hc => ?_) (fun hb hc => ?_) (fun hb hc => ?_)
    | ((with_reducible refine sGb ?_); refine sIb (fun hb => ?_) (fun hb => ?_))
    | ((with_reducible refine sGi ?_); first | refine sT (h := ?_) | refine sF' (h := ?_) | refine sI (fun hb hc => ?_) (fun hb hc => ?_))
    | with_reducible refine sim_let ?_
    | refine sY (h := ?_)
    | refine sN (h := ?_)
    | refine sF [] false
    | refine sFe [] false
    | fail)
   | ((with_reducible refine gO ?_); first
    | with_reducible exact simO_none
    | ((with_reducible refine oGb ?_); first | refine oTe (h := ?_) | refine oFd (h := ?_) | refine oTb (h := ?_) | refine oFb (h := ?_))
    | with_reducible refine oBd (fun hb hc => ?_) (fun hb hc => ?_) (fun hb hc => ?_) (fun hb hc => ?_)
    | ((with_reducible refine oGb ?_); refine oIb (fun hb => ?_) (fun hb => ?_))
    | ((with_reducible refine oGi ?_); first | refine oT (h := ?_) | refine oF' (h := ?_) | refine oI (fun hb hc => ?_) (fun hb hc => ?_))
    | with_reducible refine simO_let ?_
    | refine simO_nil ?_
    | ((with_reducible refine gC ?_); first
     | refine oC true (hh := fun t ht => bits_Mul32.holds _ _ t ht) (h := fun t => ?_)
     | refine oC true (hh := fun t ht => bits_Mul64.holds _ _ t ht) (h := fun t => ?_)
     | fail)
    | refine oV (h := ?_)
    | refine oKu (h := ?_)
    | refine oS (h := ?_)
    | refine oN (h := ?_)
    | refine oA (h := ?_)
    | fail)
   | fail

theorem stringslite_HasPrefix.holds {mx : Int} (a0 : ByteArray) (a1 : ByteArray) (r : Bool) (h : stringslite_HasPrefix.f a0 a1 = some r) : Holds Tryz.prog (G0 mx) 155 [] [.str a0, .str a1] (.bool r) [] := by
  refine holds_of_sim (fun (r : Bool) => (.bool r, [])) h Tryz.func155 rfl (by kernel_rfl) 18 rfl (by simp) (by simp) [(0, .str a0), (1, .str a1)] rfl [] rfl [.tmp 4] rfl ?_
  clear h
  unfold stringslite_HasPrefix.f
  refine sim_mk ?_
  repeat' first
   | ((with_reducible refine gS ?_); first
    | with_reducible refine sim_seq ?_
    | with_reducible refine sim_block ?_
    | with_reducible refine sim_skip ?_
    | with_reducible refine sim_inBlock ?_
    | with_reducible exact sim_none
    | refine sR (h := ?_)
    | refine sX (h := ?_)
    | refine sD (hm := by exact mixed) (h := ?_)
    | ((with_reducible refine sGb ?_); first | refine sTe (h := ?_) | refine sFd (h := ?_) | refine sTb (h := ?_) | refine sFb (h := ?_))
    | with_reducible refine sBd (fun hb hc => ?_) (fun hb hc => ?_) (fun hb hc => ?_) (fun hb hc => ?_)
    | ((with_reducible refine sGb ?_); refine sIb (fun hb => ?_) (fun hb => ?_))
    | ((with_reducible refine sGi ?_); first | refine sT (h := ?_) | refine sF' (h := ?_) | refine sI (fun hb hc => ?_) (fun hb hc => ?_))
    | with_reducible refine sim_let ?_
    | refine sY (h := ?_)
    | refine sN (h := ?_)
    | refine sF [] false
    | refine sFe [] false
    | fail)
   | ((with_reducible refine gO ?_); first
    | with_reducible exact simO_none
    | ((with_reducible refine oGb ?_); first | refine oTe (h := ?_) | refine oFd (h := ?_) | refine oTb (h := ?_) | refine oFb (h := ?_))
    | with_reducible refine oBd (fun hb hc => ?_) (fun hb hc => ?_) (fun hb hc => ?_) (fun hb hc => ?_)
    | ((with_reducible refine oGb ?_); refine oIb (fun hb => ?_) (fun hb => ?_))
    | ((with_reducible refine oGi ?_); first | refine oT (h := ?_) | refine oF' (h := ?_) | refine oI (fun hb hc => ?_) (fun hb hc => ?_))
    | with_reducible refine simO_let ?_
    | refine simO_nil ?_
    | refine oV (h := ?_)
    | refine oVg (h := ?_)
    | refine oKg (h := ?_)
    | refine oKu (h := ?_)
    | refine oS (h := ?_)
    | refine oN (h := ?_)
    | refine oNg (h := ?_)
    | refine oA (h := ?_)
    | fail)
   | fail

theorem strings_HasPrefix.holds {mx : Int} (a0 : ByteArray) (a1 : ByteArray) (r : Bool) (h : strings_HasPrefix.f a0 a1 = some r) : Holds Tryz.prog (G0 mx) 142 [] [.str a0, .str a1] (.bool r) [] := by
  refine holds_of_sim (fun (r : Bool) => (.bool r, [])) h Tryz.func142 rfl (by kernel_rfl) 8 rfl (by simp) (by simp) [(0, .str a0), (1, .str a1)] rfl [] rfl [.tmp 4] rfl ?_
  clear h
  unfold strings_HasPrefix.f
  refine sim_mk ?_
  repeat' first
   | ((with_reducible refine gS ?_); first
    | with_reducible refine sim_seq ?_
    | with_reducible refine sim_block ?_
    | with_reducible refine sim_skip ?_
    | with_reducible refine sim_inBlock ?_
    | with_reducible exact sim_none
    | refine sR (h := ?_)
    | refine sX (h := ?_)
    | refine sD (hm := by exact mixed) (h := ?_)
    | ((with_reducible refine sGb ?_); first | refine sTe (h := ?_) | refine sFd (h := ?_) | refine sTb (h := ?_) | refine sFb (h := ?_))
    | with_reducible refine sBd (fun hb hc => ?_) (fun hb hc => ?_) (fun hb hc => ?_) (fun hb hc => ?_)
    | ((with_reducible refine sGb ?_); refine sIb (fun hb => ?_) (fun hb => ?_))
    | ((with_reducible refine sGi ?_); first | refine sT (h := ?_) | refine sF' (h := ?_) | refine sI (fun hb hc => ?_) (fun hb hc => ?_))
    | with_reducible refine sim_let ?_
    | refine sY (h := ?_)
    | refine sN (h := ?_)
    | refine sF [] false
    | refine sFe [] false
    | fail)
   | ((with_reducible refine gO ?_); first
    | with_reducible exact simO_none
    | ((with_reducible refine oGb ?_); first | refine oTe (h := ?_) | refine oFd (h := ?_) | refine oTb (h := ?_) | refine oFb (h := ?_))
    | with_reducible refine oBd (fun hb hc => ?_) (fun hb hc => ?_) (fun hb hc => ?_) (fun hb hc => ?_)
    | ((with_reducible refine oGb ?_); refine oIb (fun hb => ?_) (fun hb => ?_))
    | ((with_reducible refine oGi ?_); first | refine oT (h := ?_) | refine oF' (h := ?_) | refine oI (fun hb hc => ?_) (fun hb hc => ?_))
    | with_reducible refine simO_let ?_
    | refine simO_nil ?_
    | ((with_reducible refine gC ?_); first
     | refine oC true (hh := fun t ht => stringslite_HasPrefix.holds _ _ t ht) (h := fun t => ?_)
     | fail)
    | refine oV (h := ?_)
    | refine oKu (h := ?_)
    | refine oS (h := ?_)
    | refine oN (h := ?_)
    | refine oA (h := ?_)
    | fail)
   | fail

theorem strings_Repeat.holds {mx : Int} (a0 : ByteArray) (a1 : Int) (r : ByteArray) (h : strings_Repeat.f a0 a1 = some r) : Holds Tryz.prog (G0 mx) 126 [] [.str a0, .int .i64 a1] (.str r) [] := by
  unfold strings_Repeat.f at h
  by_cases h1 : 0 ≤ a1
  · by_cases h2 : a1 ≤ 9223372036854775807
    · by_cases h3 : a0.size * a1.toNat ≤ 140737488355328
      · rw [if_pos h1, if_pos h2, if_pos h3] at h
        obtain rfl := Option.some.inj h
        obtain ⟨n, rfl⟩ := Int.eq_ofNat_of_zero_le h1
        rw [Int.toNat_natCast] at h3
        refine holds_below (by kernel_rfl) (fun w fz β vs hG hV => ?_)
        obtain ⟨v0, vs, rfl, h0, hV⟩ := hV.head
        obtain ⟨v1, vs, rfl, h1', hV⟩ := hV.head
        obtain rfl := hV.none
        obtain rfl := h0.str_inv
        obtain rfl := h1'.int_inv
        exact ⟨_, Tryz.strings_Repeat a0 n w (by omega) h3, fun w' fz' => .f _ _ (.str _)⟩
      · rw [if_pos h1, if_pos h2, if_neg h3] at h; cases h
    · rw [if_pos h1, if_neg h2] at h; cases h
  · rw [if_neg h1] at h; cases h

theorem bytealg_Cutover.holds {mx : Int} (a0 : Int) (r : Int) (h : bytealg_Cutover.f a0 = some r) : Holds Tryz.prog (G0 mx) 153 [] [.int .i64 a0] (.int .i64 r) [] := by
  refine holds_of_sim (fun (r : Int) => (.int .i64 r, [])) h Tryz.func153 rfl (by kernel_rfl) 6 rfl (by simp) (by simp) [(0, .int .i64 a0)] rfl [] rfl [.tmp 2] rfl ?_
  clear h
  unfold bytealg_Cutover.f
  refine sim_mk ?_
  repeat' first
   | ((with_reducible refine gS ?_); first
    | with_reducible refine sim_seq ?_
    | with_reducible refine sim_block ?_
    | with_reducible refine sim_skip ?_
    | with_reducible refine sim_inBlock ?_
    | with_reducible exact sim_none
    | refine sR (h := ?_)
    | refine sX (h := ?_)
    | refine sD (hm := by exact mixed) (h := ?_)
    | ((with_reducible refine sGb ?_); first | refine sTe (h := ?_) | refine sFd (h := ?_) | refine sTb (h := ?_) | refine sFb (h := ?_))
    | with_reducible refine sBd (fun hb hc => ?_) (fun hb hc => ?_) (fun hb hc => ?_) (fun hb hc => ?_)
    | ((with_reducible refine sGb ?_); refine sIb (fun hb => ?_) (fun hb => ?_))
    | ((with_reducible refine sGi ?_); first | refine sT (h := ?_) | refine sF' (h := ?_) | refine sI (fun hb hc => ?_) (fun hb hc => ?_))
    | with_reducible refine sim_let ?_
    | refine sY (h := ?_)
    | refine sN (h := ?_)
    | refine sF [] false
    | refine sFe [] false
    | fail)
   | ((with_reducible refine gO ?_); first
    | with_reducible exact simO_none
    | ((with_reducible refine oGb ?_); first | refine oTe (h := ?_) | refine oFd (h := ?_) | refine oTb (h := ?_) | refine oFb (h := ?_))
    | with_reducible refine oBd (fun hb hc => ?_) (fun hb hc => ?_) (fun hb hc => ?_) (fun hb hc => ?_)
    | ((with_reducible refine oGb ?_); refine oIb (fun hb => ?_) (fun hb => ?_))
    | ((with_reducible refine oGi ?_); first | refine oT (h := ?_) | refine oF' (h := ?_) | refine oI (fun hb hc => ?_) (fun hb hc => ?_))
    | with_reducible refine simO_let ?_
    | refine simO_nil ?_
    | refine oV (h := ?_)
    | refine oKu (h := ?_)
    | refine oS (h := ?_)
    | refine oN (h := ?_)
    | refine oA (h := ?_)
    | fail)
   | fail

theorem bytealg_hashStr_string.holds {mx : Int} (k : Nat) (a0 : ByteArray) (r : Int × Int) (h : bytealg_hashStr_string.f k a0 = some r) : Holds Tryz.prog (G0 mx) 161 [] [.str a0] (.tup [.int .u32 r.1, .int .u32 r.2]) [] := by
  refine holds_of_sim (fun (r : Int × Int) => (.tup [.int .u32 r.1, .int .u32 r.2], [])) h Tryz.func161 rfl (by kernel_rfl) 39 rfl (by simp) (by simp) [(0, .str a0)] rfl [] rfl [.tmp 2, .tmp 3] rfl ?_
  clear h
  unfold bytealg_hashStr_string.f
  refine sim_mk ?_
  repeat' first
   | ((with_reducible refine gS ?_); first
    | with_reducible refine sim_seq ?_
    | with_reducible refine sim_block ?_
    | with_reducible refine sim_skip ?_
    | with_reducible refine sim_inBlock ?_
    | with_reducible exact sim_none
    | refine sR (h := ?_)
    | refine sX (h := ?_)
    | refine sD (hm := by exact mixed) (h := ?_)
    | ((with_reducible refine sGb ?_); first | refine sTe (h := ?_) | refine sFd (h := ?_) | refine sTb (h := ?_) | refine sFb (h := ?_))
    | with_reducible refine sBd (fun hb hc => ?_) (fun hb hc => ?_) (fun hb hc => ?_) (fun hb hc => ?_)
    | ((with_reducible refine sGb ?_); refine sIb (fun hb => ?_) (fun hb => ?_))
    | ((with_reducible refine sGi ?_); first | refine sT (h := ?_) | refine sF' (h := ?_) | refine sI (fun hb hc => ?_) (fun hb hc => ?_))
    | with_reducible refine sim_let ?_
    | refine sY (h := ?_)
    | refine sN (h := ?_)
    | refine IHl0.out _ (_, _, _) _ (by omega) ?_
    | refine IHl1.out _ (_, _, _, _) _ (by omega) ?_
    | (refine sim_loop (fun k (x : ByteArray × Int × Int) => match x with | (x0, x4, x5) => bytealg_hashStr_string.l0 k x0 x4 x5) (fun x => mkS [(0, .str x.1), (4, .int .u32 x.2.1), (5, .int .i64 x.2.2)] ([] ++ []) []) _ (fun ⟨_, _, _⟩ => rfl) (fun k hkl0 IH x => ?_) ((_, _, _)) ?_; obtain ⟨x0, x4, x5⟩ := x; simp only [bytealg_hashStr_string.l0]; have IHl0 := Hid.mk IH; clear IH; refine sim_mk ?_)
    | (refine sim_loop (fun k (x : Int × Int × Int × Int) => match x with | (x4, x6, x7, x8) => bytealg_hashStr_string.l1 k x4 x6 x7 x8) (fun x => mkS [(4, .int .u32 x.1), (6, .int .u32 x.2.1), (7, .int .u32 x.2.2.1), (8, .int .i64 x.2.2.2)] ([] ++ []) []) _ (fun ⟨_, _, _, _⟩ => rfl) (fun k hkl1 IH x => ?_) ((_, _, _, _)) ?_; obtain ⟨x4, x6, x7, x8⟩ := x; simp only [bytealg_hashStr_string.l1]; have IHl1 := Hid.mk IH; clear IH; refine sim_mk ?_)
    | refine sF [] false
    | refine sFe [] false
    | fail)
   | ((with_reducible refine gO ?_); first
    | with_reducible exact simO_none
    | ((with_reducible refine oGb ?_); first | refine oTe (h := ?_) | refine oFd (h := ?_) | refine oTb (h := ?_) | refine oFb (h := ?_))
    | with_reducible refine oBd (fun hb hc => ?_) (fun hb hc => ?_) (fun hb hc => ?_) (fun hb hc => ?_)
    | ((with_reducible refine oGb ?_); refine oIb (fun hb => ?_) (fun hb => ?_))
    | ((with_reducible refine oGi ?_); first | refine oT (h := ?_) | refine oF' (h := ?_) | refine oI (fun hb hc => ?_) (fun hb hc => ?_))
    | with_reducible refine simO_let ?_
    | refine simO_nil ?_
    | refine oV (h := ?_)
    | refine oKu (h := ?_)
    | refine oS (h := ?_)
    | refine oN (h := ?_)
    | refine oA (h := ?_)
    | fail)
   | ((with_reducible refine gL ?_); first
    | refine lC [] [] []
    | fail)
   | fail

theorem bytealg_IndexRabinKarp_string.holds {mx : Int} (k : Nat) (a0 : ByteArray) (a1 : ByteArray) (r : Int) (h : bytealg_IndexRabinKarp_string.f k a0 a1 = some r) : Holds Tryz.prog (G0 mx) 154 [] [.str a0, .str a1] (.int .i64 r) [] := by
  refine holds_of_sim (fun (r : Int) => (.int .i64 r, [])) h Tryz.func154 rfl (by kernel_rfl) 81 rfl (by simp) (by simp) [(0, .str a0), (1, .str a1)] rfl [] rfl [.tmp 4] rfl ?_
  clear h
  unfold bytealg_IndexRabinKarp_string.f
  refine sim_mk ?_
  repeat' first
   | ((with_reducible refine gS ?_); first
    | with_reducible refine sim_seq ?_
    | with_reducible refine sim_block ?_
    | with_reducible refine sim_skip ?_
    | with_reducible refine sim_inBlock ?_
    | with_reducible exact sim_none
    | refine sR (h := ?_)
    | refine sX (h := ?_)
    | refine sD (hm := by exact mixed) (h := ?_)
    | ((with_reducible refine sGb ?_); first | refine sTe (h := ?_) | refine sFd (h := ?_) | refine sTb (h := ?_) | refine sFb (h := ?_))
    | with_reducible refine sBd (fun hb hc => ?_) (fun hb hc => ?_) (fun hb hc => ?_) (fun hb hc => ?_)
    | ((with_reducible refine sGb ?_); refine sIb (fun hb => ?_) (fun hb => ?_))
    | ((with_reducible refine sGi ?_); first | refine sT (h := ?_) | refine sF' (h := ?_) | refine sI (fun hb hc => ?_) (fun hb hc => ?_))
    | with_reducible refine sim_let ?_
    | refine sY (h := ?_)
    | refine sN (h := ?_)
    | refine IHl0.out _ (_, _, _, _, _, _, _) _ (by omega) ?_
    | refine IHl1.out _ (_, _, _, _, _, _, _) _ (by omega) ?_
    | (refine sim_loop (fun k (x : ByteArray × ByteArray × Int × Int × Int × Int × Int) => match x with | (x0, x1, x5, x6, x7, x8, x9) => bytealg_IndexRabinKarp_string.l0 k x0 x1 x5 x6 x7 x8 x9) (fun x => mkS [(0, .str x.1), (1, .str x.2.1), (5, .int .u32 x.2.2.1), (6, .int .u32 x.2.2.2.1), (7, .int .i64 x.2.2.2.2.1), (8, .int .u32 x.2.2.2.2.2.1), (9, .int .i64 x.2.2.2.2.2.2)] ([] ++ []) []) _ (fun ⟨_, _, _, _, _, _, _⟩ => rfl) (fun k hkl0 IH x => ?_) ((_, _, _, _, _, _, _)) ?_; obtain ⟨x0, x1, x5, x6, x7, x8, x9⟩ := x; simp only [bytealg_IndexRabinKarp_string.l0]; have IHl0 := Hid.mk IH; clear IH; refine sim_mk ?_)
    | (refine sim_loop (fun k (x : ByteArray × ByteArray × Int × Int × Int × Int × Int) => match x with | (x0, x1, x5, x6, x7, x8, x10) => bytealg_IndexRabinKarp_string.l1 k x0 x1 x5 x6 x7 x8 x10) (fun x => mkS [(0, .str x.1), (1, .str x.2.1), (5, .int .u32 x.2.2.1), (6, .int .u32 x.2.2.2.1), (7, .int .i64 x.2.2.2.2.1), (8, .int .u32 x.2.2.2.2.2.1), (10, .int .i64 x.2.2.2.2.2.2)] ([] ++ []) []) _ (fun ⟨_, _, _, _, _, _, _⟩ => rfl) (fun k hkl1 IH x => ?_) ((_, _, _, _, _, _, _)) ?_; obtain ⟨x0, x1, x5, x6, x7, x8, x10⟩ := x; simp only [bytealg_IndexRabinKarp_string.l1]; have IHl1 := Hid.mk IH; clear IH; refine sim_mk ?_)
    | (refine sJ (fun k => bytealg_IndexRabinKarp_string.j1 k _ _ _ _ _ _ _) rfl (fun k hk => ?_); simp only [bytealg_IndexRabinKarp_string.j1, reduceIte, Bool.false_eq_true, decide_eq_true_eq])
    | refine sF [] false
    | refine sFe [] false
    | fail)
   | ((with_reducible refine gO ?_); first
    | with_reducible exact simO_none
    | ((with_reducible refine oGb ?_); first | refine oTe (h := ?_) | refine oFd (h := ?_) | refine oTb (h := ?_) | refine oFb (h := ?_))
    | with_reducible refine oBd (fun hb hc => ?_) (fun hb hc => ?_) (fun hb hc => ?_) (fun hb hc => ?_)
    | ((with_reducible refine oGb ?_); refine oIb (fun hb => ?_) (fun hb => ?_))
    | ((with_reducible refine oGi ?_); first | refine oT (h := ?_) | refine oF' (h := ?_) | refine oI (fun hb hc => ?_) (fun hb hc => ?_))
    | with_reducible refine simO_let ?_
    | refine simO_nil ?_
    | ((with_reducible refine gC ?_); first
     | refine oC true (hh := fun t ht => bytealg_hashStr_string.holds _ _ t ht) (h := fun t => ?_)
     | fail)
    | refine oV (h := ?_)
    | refine oVg (h := ?_)
    | refine oKg (h := ?_)
    | refine oKu (h := ?_)
    | refine oS (h := ?_)
    | refine oN (h := ?_)
    | refine oNg (h := ?_)
    | refine oA (h := ?_)
    | (refine oJ (fun k => bytealg_IndexRabinKarp_string.j1 k _ _ _ _ _ _ _) rfl (fun k hk => ?_); simp only [bytealg_IndexRabinKarp_string.j1, reduceIte, Bool.false_eq_true, decide_eq_true_eq])
    | fail)
   | ((with_reducible refine gL ?_); first
    | refine lC [] [] []
    | fail)
   | fail

theorem strings_Cut.holds {mx : Int} (a0 : ByteArray) (a1 : ByteArray) (r : ByteArray × ByteArray × Bool) (h : strings_Cut.f a0 a1 = some r) : Holds Tryz.prog (G0 mx) 76 [] [.str a0, .str a1] (.tup [.str r.1, .str r.2.1, .bool r.2.2]) [] := by
  unfold strings_Cut.f at h
  by_cases hs : a0.size < 4294967281
  · rw [if_pos hs] at h
    obtain rfl := Option.some.inj h
    refine holds_below (by kernel_rfl) (fun w fz β vs hG hV => ?_)
    obtain ⟨v0, vs, rfl, h0, hV⟩ := hV.head
    obtain ⟨v1, vs, rfl, h1, hV⟩ := hV.head
    obtain rfl := hV.none
    obtain rfl := h0.str_inv
    obtain rfl := h1.str_inv
    refine ⟨_, (Tryz.strings_Cut a0 a1 mx w hs (hG.int (g := 1) rfl)).mono ?_, fun w' fz' => V_ssb _ _ _⟩
    rintro e w' ⟨rfl, n, rfl⟩
    exact ⟨rfl, below_drewN w n⟩
  · rw [if_neg hs] at h; cases h

theorem stringslite_CutPrefix.holds {mx : Int} (a0 : ByteArray) (a1 : ByteArray) (r : ByteArray × Bool) (h : stringslite_CutPrefix.f a0 a1 = some r) : Holds Tryz.prog (G0 mx) 140 [] [.str a0, .str a1] (.tup [.str r.1, .bool r.2]) [] := by
  refine holds_of_sim (fun (r : ByteArray × Bool) => (.tup [.str r.1, .bool r.2], [])) h Tryz.func140 rfl (by kernel_rfl) 15 rfl (by simp) (by simp) [(0, .str a0), (1, .str a1)] rfl [] rfl [.tmp 4, .tmp 5] rfl ?_
  clear h
  unfold stringslite_CutPrefix.f
  refine sim_mk ?_
  repeat' first
   | ((with_reducible refine gS ?_); first
    | with_reducible refine sim_seq ?_
    | with_reducible refine sim_block ?_
    | with_reducible refine sim_skip ?_
    | with_reducible refine sim_inBlock ?_
    | with_reducible exact sim_none
    | refine sR (h := ?_)
    | refine sX (h := ?_)
    | refine sD (hm := by exact mixed) (h := ?_)
    | ((with_reducible refine sGb ?_); first | refine sTe (h := ?_) | refine sFd (h := ?_) | refine sTb (h := ?_) | refine sFb (h := ?_))
    | with_reducible refine sBd (fun hb hc => ?_) (fun hb hc => ?_) (fun hb hc => ?_) (fun hb hc => ?_)
    | ((with_reducible refine sGb ?_); refine sIb (fun hb => ?_) (fun hb => ?_))
    | ((with_reducible refine sGi ?_); first | refine sT (h := ?_) | refine sF' (h := ?_) | refine sI (fun hb hc => ?_) (fun hb hc => ?_))
    | with_reducible refine sim_let ?_
    | refine sY (h := ?_)
    | refine sN (h := ?_)
    | refine sF [] false
    | refine sFe [] false
    | fail)
   | ((with_reducible refine gO ?_); first
    | with_reducible exact simO_none
    | ((with_reducible refine oGb ?_); first | refine oTe (h := ?_) | refine oFd (h := ?_) | refine oTb (h := ?_) | refine oFb (h := ?_))
    | with_reducible refine oBd (fun hb hc => ?_) (fun hb hc => ?_) (fun hb hc => ?_) (fun hb hc => ?_)
    | ((with_reducible refine oGb ?_); refine oIb (fun hb => ?_) (fun hb => ?_))
    | ((with_reducible refine oGi ?_); first | refine oT (h := ?_) | refine oF' (h := ?_) | refine oI (fun hb hc => ?_) (fun hb hc => ?_))
    | with_reducible refine simO_let ?_
    | refine simO_nil ?_
    | ((with_reducible refine gC ?_); first
     | refine oC true (hh := fun t ht => stringslite_HasPrefix.holds _ _ t ht) (h := fun t => ?_)
     | fail)
    | refine oV (h := ?_)
    | refine oKu (h := ?_)
    | refine oS (h := ?_)
    | refine oN (h := ?_)
    | refine oA (h := ?_)
    | fail)
   | fail

theorem strings_CutPrefix.holds {mx : Int} (a0 : ByteArray) (a1 : ByteArray) (r : ByteArray × Bool) (h : strings_CutPrefix.f a0 a1 = some r) : Holds Tryz.prog (G0 mx) 124 [] [.str a0, .str a1] (.tup [.str r.1, .bool r.2]) [] := by
  refine holds_of_sim (fun (r : ByteArray × Bool) => (.tup [.str r.1, .bool r.2], [])) h Tryz.func124 rfl (by kernel_rfl) 11 rfl (by simp) (by simp) [(0, .str a0), (1, .str a1)] rfl [] rfl [.tmp 4, .tmp 5] rfl ?_
  clear h
  unfold strings_CutPrefix.f
  refine sim_mk ?_
  repeat' first
   | ((with_reducible refine gS ?_); first
    | with_reducible refine sim_seq ?_
    | with_reducible refine sim_block ?_
    | with_reducible refine sim_skip ?_
    | with_reducible refine sim_inBlock ?_
    | with_reducible exact sim_none
    | refine sR (h := ?_)
    | refine sX (h := ?_)
    | refine sD (hm := by exact mixed) (h := ?_)
    | ((with_reducible refine sGb ?_); first | refine sTe (h := ?_) | refine sFd (h := ?_) | refine sTb (h := ?_) | refine sFb (h := ?_))
    | with_reducible refine sBd (fun hb hc => ?_) (fun hb hc => ?_) (fun hb hc => ?_) (fun hb hc => ?_)
    | ((with_reducible refine sGb ?_); refine sIb (fun hb => ?_) (fun hb => ?_))
    | ((with_reducible refine sGi ?_); first | refine sT (h := ?_) | refine sF' (h := ?_) | refine sI (fun hb hc => ?_) (fun hb hc => ?_))
    | with_reducible refine sim_let ?_
    | refine sY (h := ?_)
    | refine sN (h := ?_)
    | refine sF [] false
    | refine sFe [] false
    | fail)
   | ((with_reducible refine gO ?_); first
    | with_reducible exact simO_none
    | ((with_reducible refine oGb ?_); first | refine oTe (h := ?_) | refine oFd (h := ?_) | refine oTb (h := ?_) | refine oFb (h := ?_))
    | with_reducible refine oBd (fun hb hc => ?_) (fun hb hc => ?_) (fun hb hc => ?_) (fun hb hc => ?_)
    | ((with_reducible refine oGb ?_); refine oIb (fun hb => ?_) (fun hb => ?_))
    | ((with_reducible refine oGi ?_); first | refine oT (h := ?_) | refine oF' (h := ?_) | refine oI (fun hb hc => ?_) (fun hb hc => ?_))
    | with_reducible refine simO_let ?_
    | refine simO_nil ?_
    | ((with_reducible refine gC ?_); first
     | refine oC true (hh := fun t ht => stringslite_CutPrefix.holds _ _ t ht) (h := fun t => ?_)
     | fail)
    | refine oV (h := ?_)
    | refine oKu (h := ?_)
    | refine oS (h := ?_)
    | refine oN (h := ?_)
    | refine oA (h := ?_)
    | fail)
   | fail

end Go.Proofs.YtjgmmaeafodpmaaGreatDoor.P
