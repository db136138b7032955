/- Contracts: each Go function of a package comes to its plain function. -/
import Derived.Test.YtjgmmaeafodpmaaGreatDoorMb
import Derived.Test.YtjgmmaeafodpmaaGreatDoorMx
import Derived.Test.YtjgmmaeafodpmaaGreatDoorHnat
import Derived.Test.YtjgmmaeafodpmaaGreatDoorHmul
import Derived.Test.YtjgmmaeafodpmaaGreatDoorHquo
import Derived.Test.YtjgmmaeafodpmaaGreatDoorHgo
set_option linter.unusedVariables false
set_option linter.unusedSimpArgs false
set_option maxRecDepth 100000
set_option maxHeartbeats 8000000
namespace Go.Proofs.YtjgmmaeafodpmaaGreatDoor.P
open Go Go.RowKit Go.Proofs.YtjgmmaeafodpmaaGreatDoor.Am Go.Proofs.YtjgmmaeafodpmaaGreatDoorW.PrintWords Go.Proofs.YtjgmmaeafodpmaaGreatDoorW.PrintMore
attribute [local irreducible] cpy rd bt strOfNums ByteArray.extract
theorem digits_Ten.holds {mx : Int} (k : Nat) (a0 : Int) (r : List Int × Bool) (h : digits_Ten.f k a0 = some r) : Holds Tryz.prog (G0 mx) 46 [] [.int .i64 a0] (.tup [.own 0 0 r.1.length, .bool r.2]) [⟨86, 1, (.int .u32 0), r.1.map (AV.int .u32)⟩] := by
  refine holds_of_sim (fun (r : List Int × Bool) => (.tup [.own 0 0 r.1.length, .bool r.2], [⟨86, 1, (.int .u32 0), r.1.map (AV.int .u32)⟩])) h Tryz.func46 rfl (by kernel_rfl) 23 rfl (by simp) (by simp) [(0, .int .i64 a0)] rfl [] rfl [.tmp 2, .tmp 3] rfl ?_
  clear h
  unfold digits_Ten.f
  refine sim_mk ?_
  repeat' first
   | ((with_reducible refine gS ?_); first
    | with_reducible refine sim_seq ?_
    | with_reducible refine sim_block ?_
    | with_reducible refine sim_skip ?_
    | with_reducible refine sim_inBlock ?_
    | with_reducible exact sim_none
    | refine sR (h := ?_)
    | refine sX (h := ?_)
    | refine sD (hm := by exact mixed) (h := ?_)
    | ((with_reducible refine sGb ?_); first | refine sTe (h := ?_) | refine sFd (h := ?_) | refine sTb (h := ?_) | refine sFb (h := ?_))
    | with_reducible refine sBd (fun hb hc => ?_) (fun hb hc => ?_) (fun hb hc => ?_) (fun hb hc => ?_)
    | ((with_reducible refine sGb ?_); refine sIb (fun hb => ?_) (fun hb => ?_))
    | ((with_reducible refine sGi ?_); first | refine sT (h := ?_) | refine sF' (h := ?_) | refine sI (fun hb hc => ?_) (fun hb hc => ?_))
    | with_reducible refine sim_let ?_
    | refine sY (h := ?_)
    | refine sN (h := ?_)
    | refine IHl0.out _ (_, _) _ (by omega) ?_
    | (refine sim_loop (fun k (x : Int × List Int) => match x with | (x0, x4) => digits_Ten.l0 k x0 x4) (fun x => mkS [(0, .int .i64 x.1), (4, .own 1004 0 x.2.length)] ([] ++ [1004]) [⟨86, 1, (.int .u32 0), x.2.map (AV.int .u32)⟩]) _ (fun ⟨_, _⟩ => rfl) (fun k hkl0 IH x => ?_) ((_, _)) ?_; obtain ⟨x0, x4⟩ := x; simp only [digits_Ten.l0]; have IHl0 := Hid.mk IH; clear IH; refine sim_mk ?_)
    | (refine sJ (fun k => digits_Ten.j0 k _ _) rfl (fun k hk => ?_); simp only [digits_Ten.j0, reduceIte, Bool.false_eq_true, decide_eq_true_eq])
    | refine sF [] true
    | refine sFe [] true
    | refine sNil 2 3002 ⟨86, 1, (.int .u32 0), []⟩ (h := ?_)
    | fail)
   | ((with_reducible refine gO ?_); first
    | with_reducible exact simO_none
    | ((with_reducible refine oGb ?_); first | refine oTe (h := ?_) | refine oFd (h := ?_) | refine oTb (h := ?_) | refine oFb (h := ?_))
    | with_reducible refine oBd (fun hb hc => ?_) (fun hb hc => ?_) (fun hb hc => ?_) (fun hb hc => ?_)
    | ((with_reducible refine oGb ?_); refine oIb (fun hb => ?_) (fun hb => ?_))
    | ((with_reducible refine oGi ?_); first | refine oT (h := ?_) | refine oF' (h := ?_) | refine oI (fun hb hc => ?_) (fun hb hc => ?_))
    | with_reducible refine simO_let ?_
    | refine simO_nil ?_
    | ((with_reducible refine gC ?_); first
     | refine oC true (hh := fun t ht => nat_Of.holds _ _ t ht) (h := fun t => ?_)
     | refine oC true (hh := fun t ht => mul_Small.holds _ _ _ t ht) (h := fun t => ?_)
     | fail)
    | refine oV (h := ?_)
    | refine oVg (h := ?_)
    | refine oKg (h := ?_)
    | refine oKu (h := ?_)
    | refine oS (h := ?_)
    | refine oN (h := ?_)
    | refine oNg (h := ?_)
    | refine oA (h := ?_)
    | (refine oJ (fun k => digits_Ten.j0 k _ _) rfl (fun k hk => ?_); simp only [digits_Ten.j0, reduceIte, Bool.false_eq_true, decide_eq_true_eq])
    | fail)
   | ((with_reducible refine gL ?_); first
    | refine lC [] [4] [1004]
    | (refine lTr 4 (h := ?_); refine lC [] [4] [1004])
    | refine lNil 4 2004 ⟨86, 1, (.int .u32 0), []⟩ (h := ?_)
    | fail)
   | fail

theorem digits_Text.holds {mx : Int} (k : Nat) (l0 : List Int) (r : ByteArray) (h : digits_Text.f k l0 = some r) : Holds Tryz.prog (G0 mx) 84 [] [.sl 1 (.int .u32 0) (l0.map (AV.int .u32))] (.str r) [] := by
  refine holds_of_sim (fun (r : ByteArray) => (.str r, [])) h Tryz.func84 rfl (by kernel_rfl) 57 rfl (by simp) (by simp) [(0, .sl 1 (.int .u32 0) (l0.map (AV.int .u32)))] rfl [] rfl [.tmp 2] rfl ?_
  clear h
  unfold digits_Text.f
  refine sim_mk ?_
  repeat' first
   | ((with_reducible refine gS ?_); first
    | with_reducible refine sim_seq ?_
    | with_reducible refine sim_block ?_
    | with_reducible refine sim_skip ?_
    | with_reducible refine sim_inBlock ?_
    | with_reducible exact sim_none
    | refine sR (h := ?_)
    | refine sX (h := ?_)
    | refine sD (hm := by exact mixed) (h := ?_)
    | ((with_reducible refine sGb ?_); first | refine sTe (h := ?_) | refine sFd (h := ?_) | refine sTb (h := ?_) | refine sFb (h := ?_))
    | with_reducible refine sBd (fun hb hc => ?_) (fun hb hc => ?_) (fun hb hc => ?_) (fun hb hc => ?_)
    | ((with_reducible refine sGb ?_); refine sIb (fun hb => ?_) (fun hb => ?_))
    | with_reducible refine sIz (fun r1 r2 r3 r4 => ?_)
    | ((with_reducible refine sGi ?_); first | refine sT (h := ?_) | refine sF' (h := ?_) | refine sI (fun hb hc => ?_) (fun hb hc => ?_))
    | with_reducible refine sim_let ?_
    | refine sY (h := ?_)
    | refine sN (h := ?_)
    | refine IHl0.out _ (_, _) _ (by omega) ?_
    | refine IHl1.out _ (_, _, _, _) _ (by omega) ?_
    | refine IHl2.out _ _ _ (by omega) ?_
    | (refine sim_loop (fun k (x : List Int × List Int) => match x with | (x0, x3) => digits_Text.l0 k x0 x3) (fun x => mkS [(0, .sl 1 (.int .u32 0) (x.1.map (AV.int .u32))), (3, .own 1003 0 x.2.length)] ([] ++ [1003]) [⟨5, 1, (.int .u8 0), x.2.map (AV.int .u8)⟩]) _ (fun ⟨_, _⟩ => rfl) (fun k hkl0 IH x => ?_) ((_, _)) ?_; obtain ⟨x0, x3⟩ := x; simp only [digits_Text.l0]; have IHl0 := Hid.mk IH; clear IH; refine sim_mk ?_)
    | (refine sim_loop (fun k (x : List Int × List Int × Int × Int) => match x with | (x3, x4, x5, x20) => digits_Text.l1 k x3 x4 x5 x20) (fun x => mkS [(3, .own 1003 0 x.1.length), (4, .sl 1 (.int .u32 0) (x.2.1.map (AV.int .u32))), (5, .int .u32 x.2.2.1), (20, .int .i64 x.2.2.2)] ([] ++ [1003]) [⟨5, 1, (.int .u8 0), x.1.map (AV.int .u8)⟩]) _ (fun ⟨_, _, _, _⟩ => rfl) (fun k hkl1 IH x => ?_) ((_, _, _, _)) ?_; obtain ⟨x3, x4, x5, x20⟩ := x; simp only [digits_Text.l1]; have IHl1 := Hid.mk IH; clear IH; refine sim_mk ?_)
    | (refine sim_loop (fun k (x : List Int) => digits_Text.l2 k x) (fun x => mkS [(3, .own 1003 0 x.length)] ([] ++ [1003]) [⟨5, 1, (.int .u8 0), x.map (AV.int .u8)⟩]) _ (fun _ => rfl) (fun k hkl2 IH x => ?_) (_) ?_; obtain x3 := x; simp only [digits_Text.l2]; have IHl2 := Hid.mk IH; clear IH; refine sim_mk ?_)
    | refine sF [] false
    | refine sFe [] false
    | fail)
   | ((with_reducible refine gO ?_); first
    | with_reducible exact simO_none
    | ((with_reducible refine oGb ?_); first | refine oTe (h := ?_) | refine oFd (h := ?_) | refine oTb (h := ?_) | refine oFb (h := ?_))
    | with_reducible refine oBd (fun hb hc => ?_) (fun hb hc => ?_) (fun hb hc => ?_) (fun hb hc => ?_)
    | ((with_reducible refine oGb ?_); refine oIb (fun hb => ?_) (fun hb => ?_))
    | with_reducible refine oIz (fun r1 r2 r3 r4 => ?_)
    | ((with_reducible refine oGi ?_); first | refine oT (h := ?_) | refine oF' (h := ?_) | refine oI (fun hb hc => ?_) (fun hb hc => ?_))
    | with_reducible refine simO_let ?_
    | refine simO_nil ?_
    | ((with_reducible refine gC ?_); first
     | refine oC true (hh := fun t ht => nat_Trim.holds _ _ t ht) (h := fun t => ?_)
     | refine oC true (hh := fun t ht => quo_Small.holds _ _ _ t ht) (h := fun t => ?_)
     | (refine oLen (fun t ht => slices_Reverse_byte_byte.len _ _ t ht) ?_; refine oW [0] true (hh := fun t ht => slices_Reverse_byte_byte.holds _ _ t ht) (h := fun t => ?_); refine oL (fun hl => ?_))
     | refine oW [0] true (hh := fun t ht => slices_Reverse_byte_byte.holds _ _ t ht) (h := fun t => ?_)
     | fail)
    | refine oV (h := ?_)
    | refine oVg (h := ?_)
    | refine oKg (h := ?_)
    | refine oKu (h := ?_)
    | refine oS (h := ?_)
    | refine oN (h := ?_)
    | refine oNg (h := ?_)
    | refine oA (h := ?_)
    | fail)
   | ((with_reducible refine gL ?_); first
    | refine lC [] [3] [1003]
    | (refine lTr 3 (h := ?_); refine lC [] [3] [1003])
    | refine lNil 3 2003 ⟨5, 1, (.int .u8 0), []⟩ (h := ?_)
    | refine lNilF 0 1 (.int .u32 0) (h := ?_)
    | refine lNilF 4 1 (.int .u32 0) (h := ?_)
    | fail)
   | fail

theorem digits_some.holds {mx : Int} (k : Nat) (a0 : ByteArray) (r : Int × Bool) (h : digits_some.f k a0 = some r) : Holds Tryz.prog (G0 mx) 125 [] [.str a0] (.tup [.int .u32 r.1, .bool r.2]) [] := by
  refine holds_of_sim (fun (r : Int × Bool) => (.tup [.int .u32 r.1, .bool r.2], [])) h Tryz.func125 rfl (by kernel_rfl) 31 rfl (by simp) (by simp) [(0, .str a0)] rfl [] rfl [.tmp 2, .tmp 3] rfl ?_
  clear h
  unfold digits_some.f
  refine sim_mk ?_
  repeat' first
   | ((with_reducible refine gS ?_); first
    | with_reducible refine sim_seq ?_
    | with_reducible refine sim_block ?_
    | with_reducible refine sim_skip ?_
    | with_reducible refine sim_inBlock ?_
    | with_reducible exact sim_none
    | refine sR (h := ?_)
    | refine sX (h := ?_)
    | refine sD (hm := by exact mixed) (h := ?_)
    | ((with_reducible refine sGb ?_); first | refine sTe (h := ?_) | refine sFd (h := ?_) | refine sTb (h := ?_) | refine sFb (h := ?_))
    | with_reducible refine sBd (fun hb hc => ?_) (fun hb hc => ?_) (fun hb hc => ?_) (fun hb hc => ?_)
    | ((with_reducible refine sGb ?_); refine sIb (fun hb => ?_) (fun hb => ?_))
    | ((with_reducible refine sGi ?_); first | refine sT (h := ?_) | refine sF' (h := ?_) | refine sI (fun hb hc => ?_) (fun hb hc => ?_))
    | with_reducible refine sim_let ?_
    | refine sY (h := ?_)
    | refine sN (h := ?_)
    | refine IHl0.out _ (_, _, _, _) _ (by omega) ?_
    | (refine sim_loop (fun k (x : ByteArray × Int × Int × Int) => match x with | (x0, x4, x7, x8) => digits_some.l0 k x0 x4 x7 x8) (fun x => mkS [(0, .str x.1), (4, .int .u32 x.2.1), (7, .int .i64 x.2.2.1), (8, .int .i64 x.2.2.2)] ([] ++ []) []) _ (fun ⟨_, _, _, _⟩ => rfl) (fun k hkl0 IH x => ?_) ((_, _, _, _)) ?_; obtain ⟨x0, x4, x7, x8⟩ := x; simp only [digits_some.l0]; have IHl0 := Hid.mk IH; clear IH; refine sim_mk ?_)
    | refine sF [] false
    | refine sFe [] false
    | fail)
   | ((with_reducible refine gO ?_); first
    | with_reducible exact simO_none
    | ((with_reducible refine oGb ?_); first | refine oTe (h := ?_) | refine oFd (h := ?_) | refine oTb (h := ?_) | refine oFb (h := ?_))
    | with_reducible refine oBd (fun hb hc => ?_) (fun hb hc => ?_) (fun hb hc => ?_) (fun hb hc => ?_)
    | ((with_reducible refine oGb ?_); refine oIb (fun hb => ?_) (fun hb => ?_))
    | ((with_reducible refine oGi ?_); first | refine oT (h := ?_) | refine oF' (h := ?_) | refine oI (fun hb hc => ?_) (fun hb hc => ?_))
    | with_reducible refine simO_let ?_
    | refine simO_nil ?_
    | refine oV (h := ?_)
    | refine oVg (h := ?_)
    | refine oKg (h := ?_)
    | refine oKu (h := ?_)
    | refine oS (h := ?_)
    | refine oN (h := ?_)
    | refine oNg (h := ?_)
    | refine oA (h := ?_)
    | fail)
   | ((with_reducible refine gL ?_); first
    | refine lC [] [] []
    | fail)
   | fail

theorem digits_Parse.holds {mx : Int} (k : Nat) (a0 : ByteArray) (r : List Int × Bool) (h : digits_Parse.f k a0 = some r) : Holds Tryz.prog (G0 mx) 78 [] [.str a0] (.tup [.own 0 0 r.1.length, .bool r.2]) [⟨86, 1, (.int .u32 0), r.1.map (AV.int .u32)⟩] := by
  refine holds_of_sim (fun (r : List Int × Bool) => (.tup [.own 0 0 r.1.length, .bool r.2], [⟨86, 1, (.int .u32 0), r.1.map (AV.int .u32)⟩])) h Tryz.func78 rfl (by kernel_rfl) 42 rfl (by simp) (by simp) [(0, .str a0)] rfl [] rfl [.tmp 2, .tmp 3] rfl ?_
  clear h
  unfold digits_Parse.f
  refine sim_mk ?_
  repeat' first
   | ((with_reducible refine gS ?_); first
    | with_reducible refine sim_seq ?_
    | with_reducible refine sim_block ?_
    | with_reducible refine sim_skip ?_
    | with_reducible refine sim_inBlock ?_
    | with_reducible exact sim_none
    | refine sR (h := ?_)
    | refine sX (h := ?_)
    | refine sD (hm := by exact mixed) (h := ?_)
    | ((with_reducible refine sGb ?_); first | refine sTe (h := ?_) | refine sFd (h := ?_) | refine sTb (h := ?_) | refine sFb (h := ?_))
    | with_reducible refine sBd (fun hb hc => ?_) (fun hb hc => ?_) (fun hb hc => ?_) (fun hb hc => ?_)
    | ((with_reducible refine sGb ?_); refine sIb (fun hb => ?_) (fun hb => ?_))
    | ((with_reducible refine sGi ?_); first | refine sT (h := ?_) | refine sF' (h := ?_) | refine sI (fun hb hc => ?_) (fun hb hc => ?_))
    | with_reducible refine sim_let ?_
    | refine sY (h := ?_)
    | refine sN (h := ?_)
    | refine IHl0.out _ (_, _) _ (by omega) ?_
    | (refine sim_loop (fun k (x : ByteArray × List Int) => match x with | (x0, x4) => digits_Parse.l0 k x0 x4) (fun x => mkS [(0, .str x.1), (4, .own 1004 0 x.2.length)] ([] ++ [1004]) [⟨86, 1, (.int .u32 0), x.2.map (AV.int .u32)⟩]) _ (fun ⟨_, _⟩ => rfl) (fun k hkl0 IH x => ?_) ((_, _)) ?_; obtain ⟨x0, x4⟩ := x; simp only [digits_Parse.l0]; have IHl0 := Hid.mk IH; clear IH; refine sim_mk ?_)
    | (refine sJ (fun k => digits_Parse.j0 k _ _) rfl (fun k hk => ?_); simp only [digits_Parse.j0, reduceIte, Bool.false_eq_true, decide_eq_true_eq])
    | refine sF [] true
    | refine sFe [] true
    | refine sNil 2 3002 ⟨86, 1, (.int .u32 0), []⟩ (h := ?_)
    | fail)
   | ((with_reducible refine gO ?_); first
    | with_reducible exact simO_none
    | ((with_reducible refine oGb ?_); first | refine oTe (h := ?_) | refine oFd (h := ?_) | refine oTb (h := ?_) | refine oFb (h := ?_))
    | with_reducible refine oBd (fun hb hc => ?_) (fun hb hc => ?_) (fun hb hc => ?_) (fun hb hc => ?_)
    | ((with_reducible refine oGb ?_); refine oIb (fun hb => ?_) (fun hb => ?_))
    | ((with_reducible refine oGi ?_); first | refine oT (h := ?_) | refine oF' (h := ?_) | refine oI (fun hb hc => ?_) (fun hb hc => ?_))
    | with_reducible refine simO_let ?_
    | refine simO_nil ?_
    | ((with_reducible refine gC ?_); first
     | refine oC true (hh := fun t ht => nat_Add.holds _ _ _ t ht) (h := fun t => ?_)
     | refine oC true (hh := fun t ht => nat_Of.holds _ _ t ht) (h := fun t => ?_)
     | refine oC true (hh := fun t ht => mul_Small.holds _ _ _ t ht) (h := fun t => ?_)
     | refine oC true (hh := fun t ht => digits_some.holds _ _ t ht) (h := fun t => ?_)
     | fail)
    | refine oV (h := ?_)
    | refine oVg (h := ?_)
    | refine oKg (h := ?_)
    | refine oKu (h := ?_)
    | refine oS (h := ?_)
    | refine oN (h := ?_)
    | refine oNg (h := ?_)
    | refine oA (h := ?_)
    | (refine oJ (fun k => digits_Parse.j0 k _ _) rfl (fun k hk => ?_); simp only [digits_Parse.j0, reduceIte, Bool.false_eq_true, decide_eq_true_eq])
    | fail)
   | ((with_reducible refine gL ?_); first
    | refine lC [] [4] [1004]
    | (refine lTr 4 (h := ?_); refine lC [] [4] [1004])
    | refine lNil 4 2004 ⟨86, 1, (.int .u32 0), []⟩ (h := ?_)
    | fail)
   | fail

end Go.Proofs.YtjgmmaeafodpmaaGreatDoor.P
