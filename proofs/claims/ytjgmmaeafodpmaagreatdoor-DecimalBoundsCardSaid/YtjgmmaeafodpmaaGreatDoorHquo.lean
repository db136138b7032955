/- Contracts: each Go function of a package comes to its plain function. -/
import Derived.Test.YtjgmmaeafodpmaaGreatDoorMb
import Derived.Test.YtjgmmaeafodpmaaGreatDoorMx
import Derived.Test.YtjgmmaeafodpmaaGreatDoorHmul
import Derived.Test.YtjgmmaeafodpmaaGreatDoorHnat
import Derived.Test.YtjgmmaeafodpmaaGreatDoorHgo
set_option linter.unusedVariables false
set_option linter.unusedSimpArgs false
set_option maxRecDepth 100000
set_option maxHeartbeats 8000000
namespace Go.Proofs.YtjgmmaeafodpmaaGreatDoor.P
open Go Go.RowKit Go.Proofs.YtjgmmaeafodpmaaGreatDoor.Am Go.Proofs.YtjgmmaeafodpmaaGreatDoorW.PrintWords Go.Proofs.YtjgmmaeafodpmaaGreatDoorW.PrintMore
attribute [local irreducible] cpy rd bt strOfNums ByteArray.extract
theorem quo_less.holds {mx : Int} (k : Nat) (l0 : List Int) (l1 : List Int) (a2 : Int) (r : List Int × Int) (h : quo_less.f k l0 l1 a2 = some r) : Holds Tryz.prog (G0 mx) 106 [] [.sl 1 (.int .u32 0) (l0.map (AV.int .u32)), .sl 1 (.int .u32 0) (l1.map (AV.int .u32)), .int .u32 a2] (.tup [.own 0 0 r.1.length, .int .u32 r.2]) [⟨86, 1, (.int .u32 0), r.1.map (AV.int .u32)⟩] := by
  refine holds_of_sim (fun (r : List Int × Int) => (.tup [.own 0 0 r.1.length, .int .u32 r.2], [⟨86, 1, (.int .u32 0), r.1.map (AV.int .u32)⟩])) h Tryz.func106 rfl (by kernel_rfl) 23 rfl (by simp) (by simp) [(0, .sl 1 (.int .u32 0) (l0.map (AV.int .u32))), (1, .sl 1 (.int .u32 0) (l1.map (AV.int .u32))), (2, .int .u32 a2)] rfl [] rfl [.tmp 6, .tmp 7] rfl ?_
  clear h
  unfold quo_less.f
  refine sim_mk ?_
  repeat' first
   | ((with_reducible refine gS ?_); first
    | with_reducible refine sim_seq ?_
    | with_reducible refine sim_block ?_
    | with_reducible refine sim_skip ?_
    | with_reducible refine sim_inBlock ?_
    | with_reducible exact sim_none
    | refine sR (h := ?_)
    | refine sX (h := ?_)
    | refine sD (hm := by exact mixed) (h := ?_)
    | ((with_reducible refine sGb ?_); first | refine sTe (h := ?_) | refine sFd (h := ?_) | refine sTb (h := ?_) | refine sFb (h := ?_))
    | with_reducible refine sBd (fun hb hc => ?_) (fun hb hc => ?_) (fun hb hc => ?_) (fun hb hc => ?_)
    | ((with_reducible refine sGb ?_); refine sIb (fun hb => ?_) (fun hb => ?_))
    | ((with_reducible refine sGi ?_); first | refine sT (h := ?_) | refine sF' (h := ?_) | refine sI (fun hb hc => ?_) (fun hb hc => ?_))
    | with_reducible refine sim_let ?_
    | refine sY (h := ?_)
    | refine sN (h := ?_)
    | refine IHl0.out _ (_, _, _) _ (by omega) ?_
    | (refine sim_loop (fun k (x : List Int × List Int × Int) => match x with | (x0, x1, x2) => quo_less.l0 k x0 x1 x2) (fun x => mkS [(0, .sl 1 (.int .u32 0) (x.1.map (AV.int .u32))), (1, .sl 1 (.int .u32 0) (x.2.1.map (AV.int .u32))), (2, .int .u32 x.2.2)] ([] ++ []) []) _ (fun ⟨_, _, _⟩ => rfl) (fun k hkl0 IH x => ?_) ((_, _, _)) ?_; obtain ⟨x0, x1, x2⟩ := x; simp only [quo_less.l0]; have IHl0 := Hid.mk IH; clear IH; refine sim_mk ?_)
    | refine sF [] true
    | refine sFe [] true
    | refine sNil 6 3006 ⟨86, 1, (.int .u32 0), []⟩ (h := ?_)
    | fail)
   | ((with_reducible refine gO ?_); first
    | with_reducible exact simO_none
    | ((with_reducible refine oGb ?_); first | refine oTe (h := ?_) | refine oFd (h := ?_) | refine oTb (h := ?_) | refine oFb (h := ?_))
    | with_reducible refine oBd (fun hb hc => ?_) (fun hb hc => ?_) (fun hb hc => ?_) (fun hb hc => ?_)
    | ((with_reducible refine oGb ?_); refine oIb (fun hb => ?_) (fun hb => ?_))
    | ((with_reducible refine oGi ?_); first | refine oT (h := ?_) | refine oF' (h := ?_) | refine oI (fun hb hc => ?_) (fun hb hc => ?_))
    | with_reducible refine simO_let ?_
    | refine simO_nil ?_
    | ((with_reducible refine gC ?_); first
     | refine oC true (hh := fun t ht => mul_Small.holds _ _ _ t ht) (h := fun t => ?_)
     | refine oC true (hh := fun t ht => nat_Sub.holds _ _ _ t ht) (h := fun t => ?_)
     | fail)
    | refine oV (h := ?_)
    | refine oKu (h := ?_)
    | refine oS (h := ?_)
    | refine oN (h := ?_)
    | refine oA (h := ?_)
    | fail)
   | ((with_reducible refine gL ?_); first
    | refine lC [] [] []
    | refine lNilF 0 1 (.int .u32 0) (h := ?_)
    | refine lNilF 1 1 (.int .u32 0) (h := ?_)
    | fail)
   | fail

theorem quo_guess.holds {mx : Int} (l0 : List Int) (l1 : List Int) (r : Int) (h : quo_guess.f l0 l1 = some r) : Holds Tryz.prog (G0 mx) 107 [] [.sl 1 (.int .u32 0) (l0.map (AV.int .u32)), .sl 1 (.int .u32 0) (l1.map (AV.int .u32))] (.int .u32 r) [] := by
  refine holds_of_sim (fun (r : Int) => (.int .u32 r, [])) h Tryz.func107 rfl (by kernel_rfl) 34 rfl (by simp) (by simp) [(0, .sl 1 (.int .u32 0) (l0.map (AV.int .u32))), (1, .sl 1 (.int .u32 0) (l1.map (AV.int .u32)))] rfl [] rfl [.tmp 4] rfl ?_
  clear h
  unfold quo_guess.f
  refine sim_mk ?_
  repeat' first
   | ((with_reducible refine gS ?_); first
    | with_reducible refine sim_seq ?_
    | with_reducible refine sim_block ?_
    | with_reducible refine sim_skip ?_
    | with_reducible refine sim_inBlock ?_
    | with_reducible exact sim_none
    | refine sR (h := ?_)
    | refine sX (h := ?_)
    | refine sD (hm := by exact mixed) (h := ?_)
    | ((with_reducible refine sGb ?_); first | refine sTe (h := ?_) | refine sFd (h := ?_) | refine sTb (h := ?_) | refine sFb (h := ?_))
    | with_reducible refine sBd (fun hb hc => ?_) (fun hb hc => ?_) (fun hb hc => ?_) (fun hb hc => ?_)
    | ((with_reducible refine sGb ?_); refine sIb (fun hb => ?_) (fun hb => ?_))
    | ((with_reducible refine sGi ?_); first | refine sT (h := ?_) | refine sF' (h := ?_) | refine sI (fun hb hc => ?_) (fun hb hc => ?_))
    | with_reducible refine sim_let ?_
    | refine sY (h := ?_)
    | refine sN (h := ?_)
    | refine sF [] false
    | refine sFe [] false
    | fail)
   | ((with_reducible refine gO ?_); first
    | with_reducible exact simO_none
    | ((with_reducible refine oGb ?_); first | refine oTe (h := ?_) | refine oFd (h := ?_) | refine oTb (h := ?_) | refine oFb (h := ?_))
    | with_reducible refine oBd (fun hb hc => ?_) (fun hb hc => ?_) (fun hb hc => ?_) (fun hb hc => ?_)
    | ((with_reducible refine oGb ?_); refine oIb (fun hb => ?_) (fun hb => ?_))
    | ((with_reducible refine oGi ?_); first | refine oT (h := ?_) | refine oF' (h := ?_) | refine oI (fun hb hc => ?_) (fun hb hc => ?_))
    | with_reducible refine simO_let ?_
    | refine simO_nil ?_
    | refine oV (h := ?_)
    | refine oKu (h := ?_)
    | refine oS (h := ?_)
    | refine oN (h := ?_)
    | refine oA (h := ?_)
    | fail)
   | fail

theorem quo_Rem.holds {mx : Int} (k : Nat) (l0 : List Int) (l1 : List Int) (r : List Int × List Int × Bool) (h : quo_Rem.f k l0 l1 = some r) : Holds Tryz.prog (G0 mx) 52 [] [.sl 1 (.int .u32 0) (l0.map (AV.int .u32)), .sl 1 (.int .u32 0) (l1.map (AV.int .u32))] (.tup [.own 0 0 r.1.length, .own 1 0 r.2.1.length, .bool r.2.2]) [⟨86, 1, (.int .u32 0), r.1.map (AV.int .u32)⟩, ⟨86, 1, (.int .u32 0), r.2.1.map (AV.int .u32)⟩] := by
  refine holds_of_sim (fun (r : List Int × List Int × Bool) => (.tup [.own 0 0 r.1.length, .own 1 0 r.2.1.length, .bool r.2.2], [⟨86, 1, (.int .u32 0), r.1.map (AV.int .u32)⟩, ⟨86, 1, (.int .u32 0), r.2.1.map (AV.int .u32)⟩])) h Tryz.func52 rfl (by kernel_rfl) 72 rfl (by simp) (by simp) [(0, .sl 1 (.int .u32 0) (l0.map (AV.int .u32))), (1, .sl 1 (.int .u32 0) (l1.map (AV.int .u32)))] rfl [] rfl [.tmp 4, .tmp 5, .tmp 6] rfl ?_
  clear h
  unfold quo_Rem.f
  refine sim_mk ?_
  repeat' first
   | ((with_reducible refine gS ?_); first
    | with_reducible refine sim_seq ?_
    | with_reducible refine sim_block ?_
    | with_reducible refine sim_skip ?_
    | with_reducible refine sim_inBlock ?_
    | with_reducible exact sim_none
    | refine sR (h := ?_)
    | refine sX (h := ?_)
    | refine sD (hm := by exact mixed) (h := ?_)
    | ((with_reducible refine sGb ?_); first | refine sTe (h := ?_) | refine sFd (h := ?_) | refine sTb (h := ?_) | refine sFb (h := ?_))
    | with_reducible refine sBd (fun hb hc => ?_) (fun hb hc => ?_) (fun hb hc => ?_) (fun hb hc => ?_)
    | ((with_reducible refine sGb ?_); refine sIb (fun hb => ?_) (fun hb => ?_))
    | ((with_reducible refine sGi ?_); first | refine sT (h := ?_) | refine sF' (h := ?_) | refine sI (fun hb hc => ?_) (fun hb hc => ?_))
    | with_reducible refine sim_let ?_
    | refine sY (h := ?_)
    | refine sN (h := ?_)
    | refine IHl0.out _ (_, _, _, _, _, _) _ (by omega) ?_
    | (refine sim_loop (fun k (x : List Int × List Int × List Int × Int × List Int × Int) => match x with | (x0, x1, x4, x7, x8, x9) => quo_Rem.l0 k x0 x1 x4 x7 x8 x9) (fun x => mkS [(0, .sl 1 (.int .u32 0) (x.1.map (AV.int .u32))), (1, .sl 1 (.int .u32 0) (x.2.1.map (AV.int .u32))), (4, .own 1004 0 x.2.2.1.length), (7, .int .i64 x.2.2.2.1), (8, .sl 1 (.int .u32 0) (x.2.2.2.2.1.map (AV.int .u32))), (9, .int .i64 x.2.2.2.2.2)] ([] ++ [1004]) [⟨86, 1, (.int .u32 0), x.2.2.1.map (AV.int .u32)⟩]) _ (fun ⟨_, _, _, _, _, _⟩ => rfl) (fun k hkl0 IH x => ?_) ((_, _, _, _, _, _)) ?_; obtain ⟨x0, x1, x4, x7, x8, x9⟩ := x; simp only [quo_Rem.l0]; obtain ⟨W1, hW⟩ : ∃ W : Int, wrap64 ((x1.length : Int) + 1) = W := ⟨_, rfl⟩; rw [hW]; have IHl0 := Hid.mk IH; clear IH; refine sim_mk ?_)
    | refine sF [] true
    | refine sFe [] true
    | refine sNil 4 3004 ⟨86, 1, (.int .u32 0), []⟩ (h := ?_)
    | refine sNil 5 3005 ⟨86, 1, (.int .u32 0), []⟩ (h := ?_)
    | fail)
   | ((with_reducible refine gO ?_); first
    | with_reducible exact simO_none
    | ((with_reducible refine oGb ?_); first | refine oTe (h := ?_) | refine oFd (h := ?_) | refine oTb (h := ?_) | refine oFb (h := ?_))
    | with_reducible refine oBd (fun hb hc => ?_) (fun hb hc => ?_) (fun hb hc => ?_) (fun hb hc => ?_)
    | ((with_reducible refine oGb ?_); refine oIb (fun hb => ?_) (fun hb => ?_))
    | ((with_reducible refine oGi ?_); first | refine oT (h := ?_) | refine oF' (h := ?_) | refine oI (fun hb hc => ?_) (fun hb hc => ?_))
    | with_reducible refine simO_let ?_
    | refine simO_nil ?_
    | ((with_reducible refine gC ?_); first
     | refine oC true (hh := fun t ht => nat_Trim.holds _ _ t ht) (h := fun t => ?_)
     | refine oC true (hh := fun t ht => bits_LeadingZeros32.holds _ t ht) (h := fun t => ?_)
     | refine oC true (hh := fun t ht => mul_Shift.holds _ _ _ t ht) (h := fun t => ?_)
     | refine oC true (hh := fun t ht => quo_less.holds _ _ _ _ t ht) (h := fun t => ?_)
     | refine oC true (hh := fun t ht => quo_guess.holds _ _ t ht) (h := fun t => ?_)
     | fail)
    | refine oV (h := ?_)
    | refine oKu (h := ?_)
    | refine oS (h := ?_)
    | refine oN (h := ?_)
    | refine oA (h := ?_)
    | fail)
   | ((with_reducible refine gL ?_); first
    | refine lC [] [4] [1004]
    | (refine lTr 4 (h := ?_); refine lC [] [4] [1004])
    | refine lNil 4 2004 ⟨86, 1, (.int .u32 0), []⟩ (h := ?_)
    | refine lNilF 0 1 (.int .u32 0) (h := ?_)
    | refine lNilF 1 1 (.int .u32 0) (h := ?_)
    | refine lNilF 8 1 (.int .u32 0) (h := ?_)
    | fail)
   | fail

theorem quo_Gcd.holds {mx : Int} (k : Nat) (l0 : List Int) (l1 : List Int) (r : List Int) (h : quo_Gcd.f k l0 l1 = some r) : Holds Tryz.prog (G0 mx) 100 [] [.sl 1 (.int .u32 0) (l0.map (AV.int .u32)), .sl 1 (.int .u32 0) (l1.map (AV.int .u32))] (.sl 1 (.int .u32 0) (r.map (AV.int .u32))) [] := by
  refine holds_of_sim (fun (r : List Int) => (.sl 1 (.int .u32 0) (r.map (AV.int .u32)), [])) h Tryz.func100 rfl (by kernel_rfl) 25 rfl (by simp) (by simp) [(0, .sl 1 (.int .u32 0) (l0.map (AV.int .u32))), (1, .sl 1 (.int .u32 0) (l1.map (AV.int .u32)))] rfl [] rfl [.tmp 4] rfl ?_
  clear h
  unfold quo_Gcd.f
  refine sim_mk ?_
  repeat' first
   | ((with_reducible refine gS ?_); first
    | with_reducible refine sim_seq ?_
    | with_reducible refine sim_block ?_
    | with_reducible refine sim_skip ?_
    | with_reducible refine sim_inBlock ?_
    | with_reducible exact sim_none
    | refine sR (h := ?_)
    | refine sX (h := ?_)
    | refine sD (hm := by exact mixed) (h := ?_)
    | ((with_reducible refine sGb ?_); first | refine sTe (h := ?_) | refine sFd (h := ?_) | refine sTb (h := ?_) | refine sFb (h := ?_))
    | with_reducible refine sBd (fun hb hc => ?_) (fun hb hc => ?_) (fun hb hc => ?_) (fun hb hc => ?_)
    | ((with_reducible refine sGb ?_); refine sIb (fun hb => ?_) (fun hb => ?_))
    | ((with_reducible refine sGi ?_); first | refine sT (h := ?_) | refine sF' (h := ?_) | refine sI (fun hb hc => ?_) (fun hb hc => ?_))
    | with_reducible refine sim_let ?_
    | refine sY (h := ?_)
    | refine sN (h := ?_)
    | refine IHl0.out _ (_, _) _ (by omega) ?_
    | (refine sim_loop (fun k (x : List Int × List Int) => match x with | (x0, x1) => quo_Gcd.l0 k x0 x1) (fun x => mkS [(0, .sl 1 (.int .u32 0) (x.1.map (AV.int .u32))), (1, .sl 1 (.int .u32 0) (x.2.map (AV.int .u32)))] ([] ++ []) []) _ (fun ⟨_, _⟩ => rfl) (fun k hkl0 IH x => ?_) ((_, _)) ?_; obtain ⟨x0, x1⟩ := x; simp only [quo_Gcd.l0]; have IHl0 := Hid.mk IH; clear IH; refine sim_mk ?_)
    | refine sF [] false
    | refine sFe [] false
    | fail)
   | ((with_reducible refine gO ?_); first
    | with_reducible exact simO_none
    | ((with_reducible refine oGb ?_); first | refine oTe (h := ?_) | refine oFd (h := ?_) | refine oTb (h := ?_) | refine oFb (h := ?_))
    | with_reducible refine oBd (fun hb hc => ?_) (fun hb hc => ?_) (fun hb hc => ?_) (fun hb hc => ?_)
    | ((with_reducible refine oGb ?_); refine oIb (fun hb => ?_) (fun hb => ?_))
    | ((with_reducible refine oGi ?_); first | refine oT (h := ?_) | refine oF' (h := ?_) | refine oI (fun hb hc => ?_) (fun hb hc => ?_))
    | with_reducible refine simO_let ?_
    | refine simO_nil ?_
    | ((with_reducible refine gC ?_); first
     | refine oC true (hh := fun t ht => quo_Rem.holds _ _ _ t ht) (h := fun t => ?_)
     | refine oC true (hh := fun t ht => nat_Trim.holds _ _ t ht) (h := fun t => ?_)
     | fail)
    | refine oV (h := ?_)
    | refine oKu (h := ?_)
    | refine oS (h := ?_)
    | refine oN (h := ?_)
    | refine oA (h := ?_)
    | fail)
   | ((with_reducible refine gL ?_); first
    | refine lC [] [] []
    | refine lNilF 0 1 (.int .u32 0) (h := ?_)
    | refine lNilF 1 1 (.int .u32 0) (h := ?_)
    | fail)
   | fail

theorem quo_Small.holds {mx : Int} (k : Nat) (l0 : List Int) (a1 : Int) (r : List Int × Int × Bool) (h : quo_Small.f k l0 a1 = some r) : Holds Tryz.prog (G0 mx) 127 [] [.sl 1 (.int .u32 0) (l0.map (AV.int .u32)), .int .u32 a1] (.tup [.own 0 0 r.1.length, .int .u32 r.2.1, .bool r.2.2]) [⟨86, 1, (.int .u32 0), r.1.map (AV.int .u32)⟩] := by
  refine holds_of_sim (fun (r : List Int × Int × Bool) => (.tup [.own 0 0 r.1.length, .int .u32 r.2.1, .bool r.2.2], [⟨86, 1, (.int .u32 0), r.1.map (AV.int .u32)⟩])) h Tryz.func127 rfl (by kernel_rfl) 36 rfl (by simp) (by simp) [(0, .sl 1 (.int .u32 0) (l0.map (AV.int .u32))), (1, .int .u32 a1)] rfl [] rfl [.tmp 4, .tmp 5, .tmp 6] rfl ?_
  clear h
  unfold quo_Small.f
  refine sim_mk ?_
  repeat' first
   | ((with_reducible refine gS ?_); first
    | with_reducible refine sim_seq ?_
    | with_reducible refine sim_block ?_
    | with_reducible refine sim_skip ?_
    | with_reducible refine sim_inBlock ?_
    | with_reducible exact sim_none
    | refine sR (h := ?_)
    | refine sX (h := ?_)
    | refine sD (hm := by exact mixed) (h := ?_)
    | ((with_reducible refine sGb ?_); first | refine sTe (h := ?_) | refine sFd (h := ?_) | refine sTb (h := ?_) | refine sFb (h := ?_))
    | with_reducible refine sBd (fun hb hc => ?_) (fun hb hc => ?_) (fun hb hc => ?_) (fun hb hc => ?_)
    | ((with_reducible refine sGb ?_); refine sIb (fun hb => ?_) (fun hb => ?_))
    | ((with_reducible refine sGi ?_); first | refine sT (h := ?_) | refine sF' (h := ?_) | refine sI (fun hb hc => ?_) (fun hb hc => ?_))
    | with_reducible refine sim_let ?_
    | refine sY (h := ?_)
    | refine sN (h := ?_)
    | refine IHl0.out _ (_, _, _, _) _ (by omega) ?_
    | (refine sim_loop (fun k (x : Int × Int × List Int × Int) => match x with | (x1, x5, x7, x8) => quo_Small.l0 k x1 x5 x7 x8) (fun x => mkS [(1, .int .u32 x.1), (5, .int .u32 x.2.1), (7, .own 1007 0 x.2.2.1.length), (8, .int .i64 x.2.2.2)] ([] ++ [1007]) [⟨86, 1, (.int .u32 0), x.2.2.1.map (AV.int .u32)⟩]) _ (fun ⟨_, _, _, _⟩ => rfl) (fun k hkl0 IH x => ?_) ((_, _, _, _)) ?_; obtain ⟨x1, x5, x7, x8⟩ := x; simp only [quo_Small.l0]; have IHl0 := Hid.mk IH; clear IH; refine sim_mk ?_)
    | refine sF [] true
    | refine sFe [] true
    | refine sNil 4 3004 ⟨86, 1, (.int .u32 0), []⟩ (h := ?_)
    | fail)
   | ((with_reducible refine gO ?_); first
    | with_reducible exact simO_none
    | ((with_reducible refine oGb ?_); first | refine oTe (h := ?_) | refine oFd (h := ?_) | refine oTb (h := ?_) | refine oFb (h := ?_))
    | with_reducible refine oBd (fun hb hc => ?_) (fun hb hc => ?_) (fun hb hc => ?_) (fun hb hc => ?_)
    | ((with_reducible refine oGb ?_); refine oIb (fun hb => ?_) (fun hb => ?_))
    | ((with_reducible refine oGi ?_); first | refine oT (h := ?_) | refine oF' (h := ?_) | refine oI (fun hb hc => ?_) (fun hb hc => ?_))
    | with_reducible refine simO_let ?_
    | refine simO_nil ?_
    | ((with_reducible refine gC ?_); first
     | refine oC true (hh := fun t ht => nat_Trim.holds _ _ t ht) (h := fun t => ?_)
     | refine oC true (hh := fun t ht => bits_Div32.holds _ _ _ t ht) (h := fun t => ?_)
     | fail)
    | refine oV (h := ?_)
    | refine oKu (h := ?_)
    | refine oS (h := ?_)
    | refine oN (h := ?_)
    | refine oA (h := ?_)
    | fail)
   | ((with_reducible refine gL ?_); first
    | refine lC [] [7] [1007]
    | (refine lTr 7 (h := ?_); refine lC [] [7] [1007])
    | refine lNil 7 2007 ⟨86, 1, (.int .u32 0), []⟩ (h := ?_)
    | fail)
   | fail

end Go.Proofs.YtjgmmaeafodpmaaGreatDoor.P
