/- Contracts: each Go function of a package comes to its plain function. · Contracts: each Go function of a package comes to its plain function. · Contracts: each Go function of a package comes to its plain function. -/
import Derived.Test.YtpchdjdochkjpaaGreatDoorMc
import Derived.Test.YtpchdjdochkjpaaGreatDoorMx
import Derived.Test.YtpchdjdochkjpaaGreatDoorHn
set_option linter.unusedVariables false
set_option linter.unusedSimpArgs false
set_option maxRecDepth 100000
set_option maxHeartbeats 8000000
namespace Go.Proofs.YtpchdjdochkjpaaGreatDoor.P
open Go Go.RowKit Go.Proofs.YtpchdjdochkjpaaGreatDoor.Am Go.Proofs.YtpchdjdochkjpaaGreatDoorW.PrintWords Go.Proofs.YtpchdjdochkjpaaGreatDoorW.PrintMore
attribute [local irreducible] cpy rd bt strOfNums ByteArray.extract
theorem mul_Of.holds (k : Nat) (l0 : List Int) (l1 : List Int) (r : List Int) (h : mul_Of.f k l0 l1 = some r) : Holds Tryz.prog (G0 0) 64 [] [.sl 1 (.int .u32 0) (l0.map (AV.int .u32)), .sl 1 (.int .u32 0) (l1.map (AV.int .u32))] (.own 0 0 r.length) [⟨84, 1, (.int .u32 0), r.map (AV.int .u32)⟩] := by
 refine holds_of_sim (fun (r : List Int) => ⟨.own 0 0 r.length, [⟨84, 1, (.int .u32 0), r.map (AV.int .u32)⟩], fun _ => True⟩) h Tryz.func64 rfl (by kernel_rfl) 79 rfl (by simp) (by simp) [(0, .sl 1 (.int .u32 0) (l0.map (AV.int .u32))), (1, .sl 1 (.int .u32 0) (l1.map (AV.int .u32)))] rfl [] rfl [.tmp 4] rfl ?_
 clear h
 unfold mul_Of.f
 refine sim_mk ?_
 repeat' first
  | ((with_reducible refine gS ?_); first
   | with_reducible refine sim_seq ?_
   | with_reducible refine sim_block ?_
   | with_reducible refine sim_skip ?_
   | with_reducible refine sim_inBlock ?_
   | refine sR (h := ?_)
   | refine sX (h := ?_)
   | refine sY (h := ?_)
   | refine sN (h := ?_)
   | refine IHl0.out _ (_, _, _, _, _) _ (by omega) ?_
   | refine IHl1.out _ (_, _, _, _, _, _, _, _, _, _, _) _ (by omega) ?_
   | (refine sim_loop (fun k (x : List Int × List Int × List Int × Int × Int) => match x with | (x1, x5, x21, x22, x23) => mul_Of.l0 k x1 x5 x21 x22 x23) (fun x => mkS [(1, .sl 1 (.int .u32 0) (x.1.map (AV.int .u32))), (5, .own 1005 0 x.2.1.length), (21, .sl 1 (.int .u32 0) (x.2.2.1.map (AV.int .u32))), (22, .int .i64 x.2.2.2.1), (23, .int .i64 x.2.2.2.2)] ([] ++ [1005]) [⟨84, 1, (.int .u32 0), x.2.1.map (AV.int .u32)⟩]) _ (fun ⟨_, _, _, _, _⟩ => rfl) (fun k hkl0 IH x => ?_) ((_, _, _, _, _)) ?_; obtain ⟨x1, x5, x21, x22, x23⟩ := x; simp only [mul_Of.l0]; have IHl0 := Hid.mk IH; clear IH; refine sim_mk ?_)
   | (refine sim_loop (fun k (x : List Int × List Int × Int × Int × List Int × Int × List Int × Int × Int × Int × Int) => match x with | (x1, x5, x6, x7, x8, x9, x21, x22, x23, x38, x39) => mul_Of.l1 k x1 x5 x6 x7 x8 x9 x21 x22 x23 x38 x39) (fun x => mkS [(1, .sl 1 (.int .u32 0) (x.1.map (AV.int .u32))), (5, .own 1005 0 x.2.1.length), (6, .int .i64 x.2.2.1), (7, .int .u32 x.2.2.2.1), (8, .own 1008 0 x.2.2.2.2.1.length), (9, .int .u64 x.2.2.2.2.2.1), (21, .sl 1 (.int .u32 0) (x.2.2.2.2.2.2.1.map (AV.int .u32))), (22, .int .i64 x.2.2.2.2.2.2.2.1), (23, .int .i64 x.2.2.2.2.2.2.2.2.1), (38, .int .i64 x.2.2.2.2.2.2.2.2.2.1), (39, .int .i64 x.2.2.2.2.2.2.2.2.2.2)] ([] ++ [1005, 1008]) [⟨84, 1, (.int .u32 0), x.2.1.map (AV.int .u32)⟩, ⟨84, 1, (.int .u32 0), x.2.2.2.2.1.map (AV.int .u32)⟩]) _ (fun ⟨_, _, _, _, _, _, _, _, _, _, _⟩ => rfl) (fun k hkl1 IH x => ?_) ((_, _, _, _, _, _, _, _, _, _, _)) ?_; obtain ⟨x1, x5, x6, x7, x8, x9, x21, x22, x23, x38, x39⟩ := x; simp only [mul_Of.l1]; have IHl1 := Hid.mk IH; clear IH; refine sim_mk ?_)
   | refine sF [] true
   | fail)
  | ((with_reducible refine gO ?_); first
   | with_reducible exact simB_none
   | ((with_reducible refine oGi ?_); first | refine oT (h := ?_) | refine oF' (h := ?_) | refine oI (fun hb hc => ?_) (fun hb hc => ?_))
   | with_reducible refine simB_let ?_
   | refine oNil (h := ?_)
   | ((with_reducible refine gC ?_); first
    | refine oC true (hh := fun t ht => nat_Trim.holds _ _ t ht) (h := fun t => ?_)
    | fail)
   | refine oV (h := ?_)
   | refine oS (h := ?_)
   | refine oN (h := ?_)
   | fail)
  | ((with_reducible refine gL ?_); first
   | refine lC [] [5] [1005]
   | refine lC [] [5, 8] [1005, 1008]
   | fail)
  | fail

theorem mul_Small.holds (k : Nat) (l0 : List Int) (a1 : Int) (r : List Int) (h : mul_Small.f k l0 a1 = some r) : Holds Tryz.prog (G0 0) 163 [] [.sl 1 (.int .u32 0) (l0.map (AV.int .u32)), .int .u32 a1] (.own 0 0 r.length) [⟨84, 1, (.int .u32 0), r.map (AV.int .u32)⟩] := by
 refine holds_of_sim (fun (r : List Int) => ⟨.own 0 0 r.length, [⟨84, 1, (.int .u32 0), r.map (AV.int .u32)⟩], fun _ => True⟩) h Tryz.func163 rfl (by kernel_rfl) 9 rfl (by simp) (by simp) [(0, .sl 1 (.int .u32 0) (l0.map (AV.int .u32))), (1, .int .u32 a1)] rfl [] rfl [.tmp 4] rfl ?_
 clear h
 unfold mul_Small.f
 refine sim_mk ?_
 repeat' first
  | ((with_reducible refine gS ?_); first
   | with_reducible refine sim_seq ?_
   | refine sR (h := ?_)
   | refine sF [] true
   | fail)
  | ((with_reducible refine gO ?_); first
   | refine oNil (h := ?_)
   | ((with_reducible refine gC ?_); first
    | refine oC true (hh := fun t ht => mul_Of.holds _ _ _ t ht) (h := fun t => ?_)
    | fail)
   | refine oV (h := ?_)
   | refine oN (h := ?_)
   | fail)
  | fail

theorem mul_up.holds (k : Nat) (l0 : List Int) (a1 : Int) (r : List Int) (h : mul_up.f k l0 a1 = some r) : Holds Tryz.prog (G0 0) 160 [] [.sl 1 (.int .u32 0) (l0.map (AV.int .u32)), .int .i64 a1] (.own 0 0 r.length) [⟨84, 1, (.int .u32 0), r.map (AV.int .u32)⟩] := by
 refine holds_of_sim (fun (r : List Int) => ⟨.own 0 0 r.length, [⟨84, 1, (.int .u32 0), r.map (AV.int .u32)⟩], fun _ => True⟩) h Tryz.func160 rfl (by kernel_rfl) 24 rfl (by simp) (by simp) [(0, .sl 1 (.int .u32 0) (l0.map (AV.int .u32))), (1, .int .i64 a1)] rfl [] rfl [.tmp 4] rfl ?_
 clear h
 unfold mul_up.f
 refine sim_mk ?_
 repeat' first
  | ((with_reducible refine gS ?_); first
   | with_reducible refine sim_seq ?_
   | refine sR (h := ?_)
   | refine sF [] true
   | fail)
  | ((with_reducible refine gO ?_); first
   | with_reducible exact simB_none
   | ((with_reducible refine oGi ?_); first | refine oT (h := ?_) | refine oF' (h := ?_) | refine oI (fun hb hc => ?_) (fun hb hc => ?_))
   | with_reducible refine simB_let ?_
   | refine oNil (h := ?_)
   | ((with_reducible refine gC ?_); first
    | refine oC true (hh := fun t ht => mul_Small.holds _ _ _ t ht) (h := fun t => ?_)
    | fail)
   | refine oV (h := ?_)
   | refine oN (h := ?_)
   | fail)
  | fail

theorem mul_down.holds (k : Nat) (l0 : List Int) (a1 : Int) (r : List Int) (h : mul_down.f k l0 a1 = some r) : Holds Tryz.prog (G0 0) 161 [] [.sl 1 (.int .u32 0) (l0.map (AV.int .u32)), .int .i64 a1] (.own 0 0 r.length) [⟨84, 1, (.int .u32 0), r.map (AV.int .u32)⟩] := by
 refine holds_of_sim (fun (r : List Int) => ⟨.own 0 0 r.length, [⟨84, 1, (.int .u32 0), r.map (AV.int .u32)⟩], fun _ => True⟩) h Tryz.func161 rfl (by kernel_rfl) 53 rfl (by simp) (by simp) [(0, .sl 1 (.int .u32 0) (l0.map (AV.int .u32))), (1, .int .i64 a1)] rfl [] rfl [.tmp 4] rfl ?_
 clear h
 unfold mul_down.f
 refine sim_mk ?_
 repeat' first
  | ((with_reducible refine gS ?_); first
   | with_reducible refine sim_seq ?_
   | with_reducible refine sim_block ?_
   | with_reducible refine sim_skip ?_
   | with_reducible refine sim_inBlock ?_
   | refine sR (h := ?_)
   | refine sX (h := ?_)
   | refine sY (h := ?_)
   | refine sN (h := ?_)
   | refine IHl0.out _ (_, _, _, _) _ (by omega) ?_
   | (refine sim_loop (fun k (x : Int × List Int × Int × Int) => match x with | (x1, x5, x20, x21) => mul_down.l0 k x1 x5 x20 x21) (fun x => mkS [(1, .int .i64 x.1), (5, .own 1005 0 x.2.1.length), (20, .int .i64 x.2.2.1), (21, .int .i64 x.2.2.2)] ([] ++ [1005]) [⟨84, 1, (.int .u32 0), x.2.1.map (AV.int .u32)⟩]) _ (fun ⟨_, _, _, _⟩ => rfl) (fun k hkl0 IH x => ?_) ((_, _, _, _)) ?_; obtain ⟨x1, x5, x20, x21⟩ := x; simp only [mul_down.l0]; have IHl0 := Hid.mk IH; clear IH; refine sim_mk ?_)
   | refine sF [] true
   | fail)
  | ((with_reducible refine gO ?_); first
   | with_reducible exact simB_none
   | ((with_reducible refine oGi ?_); first | refine oT (h := ?_) | refine oF' (h := ?_) | refine oI (fun hb hc => ?_) (fun hb hc => ?_))
   | refine oNil (h := ?_)
   | ((with_reducible refine gC ?_); first
    | refine oC true (hh := fun t ht => nat_Trim.holds _ _ t ht) (h := fun t => ?_)
    | fail)
   | refine oV (h := ?_)
   | refine oS (h := ?_)
   | refine oN (h := ?_)
   | fail)
  | ((with_reducible refine gL ?_); first
   | refine lC [] [5] [1005]
   | fail)
  | fail

theorem mul_Shift.holds (k : Nat) (l0 : List Int) (a1 : Int) (r : List Int) (h : mul_Shift.f k l0 a1 = some r) : Holds Tryz.prog (G0 0) 125 [] [.sl 1 (.int .u32 0) (l0.map (AV.int .u32)), .int .i64 a1] (.own 0 0 r.length) [⟨84, 1, (.int .u32 0), r.map (AV.int .u32)⟩] := by
 refine holds_of_sim (fun (r : List Int) => ⟨.own 0 0 r.length, [⟨84, 1, (.int .u32 0), r.map (AV.int .u32)⟩], fun _ => True⟩) h Tryz.func125 rfl (by kernel_rfl) 20 rfl (by simp) (by simp) [(0, .sl 1 (.int .u32 0) (l0.map (AV.int .u32))), (1, .int .i64 a1)] rfl [] rfl [.tmp 4] rfl ?_
 clear h
 unfold mul_Shift.f
 refine sim_mk ?_
 repeat' first
  | ((with_reducible refine gS ?_); first
   | with_reducible refine sim_seq ?_
   | with_reducible refine sim_block ?_
   | with_reducible refine sim_skip ?_
   | with_reducible refine sim_inBlock ?_
   | refine sR (h := ?_)
   | refine sY (h := ?_)
   | refine sN (h := ?_)
   | refine sF [] true
   | fail)
  | ((with_reducible refine gO ?_); first
   | ((with_reducible refine oGi ?_); first | refine oT (h := ?_) | refine oF' (h := ?_) | refine oI (fun hb hc => ?_) (fun hb hc => ?_))
   | refine oNil (h := ?_)
   | ((with_reducible refine gC ?_); first
    | refine oC true (hh := fun t ht => mul_up.holds _ _ _ t ht) (h := fun t => ?_)
    | refine oC true (hh := fun t ht => mul_down.holds _ _ _ t ht) (h := fun t => ?_)
    | fail)
   | refine oV (h := ?_)
   | refine oN (h := ?_)
   | fail)
  | fail

theorem mul_Pow.holds (k : Nat) (l0 : List Int) (a1 : Int) (r : List Int × Bool) (h : mul_Pow.f k l0 a1 = some r) : Holds Tryz.prog (G0 0) 138 [] [.sl 1 (.int .u32 0) (l0.map (AV.int .u32)), .int .i64 a1] (.tup [.own 0 0 r.1.length, .bool r.2]) [⟨84, 1, (.int .u32 0), r.1.map (AV.int .u32)⟩] := by
 refine holds_of_sim (fun (r : List Int × Bool) => ⟨.tup [.own 0 0 r.1.length, .bool r.2], [⟨84, 1, (.int .u32 0), r.1.map (AV.int .u32)⟩], fun _ => True⟩) h Tryz.func138 rfl (by kernel_rfl) 39 rfl (by simp) (by simp) [(0, .sl 1 (.int .u32 0) (l0.map (AV.int .u32))), (1, .int .i64 a1)] rfl [] rfl [.tmp 4, .tmp 5] rfl ?_
 clear h
 unfold mul_Pow.f
 refine sim_mk ?_
 repeat' first
  | ((with_reducible refine gS ?_); first
   | with_reducible refine sim_seq ?_
   | with_reducible refine sim_block ?_
   | with_reducible refine sim_skip ?_
   | with_reducible refine sim_inBlock ?_
   | refine sR (h := ?_)
   | refine sX (h := ?_)
   | refine sY (h := ?_)
   | refine sN (h := ?_)
   | refine IHl0.out _ (_, _, _, _) _ (by omega) ?_
   | (refine sim_loop (fun k (x : List Int × List Int × List Int × Int) => match x with | (x0, x6, x7, x8) => mul_Pow.l0 k x0 x6 x7 x8) (fun x => mkS [(0, .sl 1 (.int .u32 0) (x.1.map (AV.int .u32))), (6, .own 1006 0 x.2.1.length), (7, .sl 1 (.int .u32 0) (x.2.2.1.map (AV.int .u32))), (8, .int .i64 x.2.2.2)] ([] ++ [1006]) [⟨84, 1, (.int .u32 0), x.2.1.map (AV.int .u32)⟩]) _ (fun ⟨_, _, _, _⟩ => rfl) (fun k hkl0 IH x => ?_) ((_, _, _, _)) ?_; obtain ⟨x0, x6, x7, x8⟩ := x; simp only [mul_Pow.l0]; have IHl0 := Hid.mk IH; clear IH; refine sim_mk ?_)
   | refine sF [] true
   | refine sNil 4 3004 ⟨84, 1, (.int .u32 0), []⟩ (h := ?_)
   | fail)
  | ((with_reducible refine gO ?_); first
   | ((with_reducible refine oGb ?_); refine oIb (fun hb => ?_) (fun hb => ?_))
   | ((with_reducible refine oGi ?_); first | refine oT (h := ?_) | refine oF' (h := ?_) | refine oI (fun hb hc => ?_) (fun hb hc => ?_))
   | refine oNil (h := ?_)
   | ((with_reducible refine gC ?_); first
    | refine oC true (hh := fun t ht => mul_Of.holds _ _ _ t ht) (h := fun t => ?_)
    | refine oC true (hh := fun t ht => nat_Of.holds _ _ t ht) (h := fun t => ?_)
    | refine oC true (hh := fun t ht => nat_Bits.holds _ _ t ht) (h := fun t => ?_)
    | refine oC true (hh := fun t ht => nat_Bit.holds _ _ t ht) (h := fun t => ?_)
    | fail)
   | refine oV (h := ?_)
   | fail)
  | ((with_reducible refine gL ?_); first
   | refine lC [] [6] [1006]
   | fail)
  | fail

end Go.Proofs.YtpchdjdochkjpaaGreatDoor.P
set_option linter.unusedVariables false
set_option linter.unusedSimpArgs false
set_option maxRecDepth 100000
set_option maxHeartbeats 8000000
namespace Go.Proofs.YtpchdjdochkjpaaGreatDoor.P
open Go Go.RowKit Go.Proofs.YtpchdjdochkjpaaGreatDoor.Am Go.Proofs.YtpchdjdochkjpaaGreatDoorW.PrintWords Go.Proofs.YtpchdjdochkjpaaGreatDoorW.PrintMore
attribute [local irreducible] cpy rd bt strOfNums ByteArray.extract
theorem quo_less.holds (k : Nat) (l0 : List Int) (l1 : List Int) (a2 : Int) (r : List Int × Int) (h : quo_less.f k l0 l1 a2 = some r) : Holds Tryz.prog (G0 0) 126 [] [.sl 1 (.int .u32 0) (l0.map (AV.int .u32)), .sl 1 (.int .u32 0) (l1.map (AV.int .u32)), .int .u32 a2] (.tup [.own 0 0 r.1.length, .int .u32 r.2]) [⟨84, 1, (.int .u32 0), r.1.map (AV.int .u32)⟩] := by
 refine holds_of_sim (fun (r : List Int × Int) => ⟨.tup [.own 0 0 r.1.length, .int .u32 r.2], [⟨84, 1, (.int .u32 0), r.1.map (AV.int .u32)⟩], fun _ => True⟩) h Tryz.func126 rfl (by kernel_rfl) 23 rfl (by simp) (by simp) [(0, .sl 1 (.int .u32 0) (l0.map (AV.int .u32))), (1, .sl 1 (.int .u32 0) (l1.map (AV.int .u32))), (2, .int .u32 a2)] rfl [] rfl [.tmp 6, .tmp 7] rfl ?_
 clear h
 unfold quo_less.f
 refine sim_mk ?_
 repeat' first
  | ((with_reducible refine gS ?_); first
   | with_reducible refine sim_seq ?_
   | with_reducible refine sim_block ?_
   | with_reducible refine sim_skip ?_
   | with_reducible refine sim_inBlock ?_
   | refine sR (h := ?_)
   | refine sY (h := ?_)
   | refine sN (h := ?_)
   | refine IHl0.out _ (_, _, _) _ (by omega) ?_
   | (refine sim_loop (fun k (x : List Int × List Int × Int) => match x with | (x0, x1, x2) => quo_less.l0 k x0 x1 x2) (fun x => mkS [(0, .sl 1 (.int .u32 0) (x.1.map (AV.int .u32))), (1, .sl 1 (.int .u32 0) (x.2.1.map (AV.int .u32))), (2, .int .u32 x.2.2)] ([] ++ []) []) _ (fun ⟨_, _, _⟩ => rfl) (fun k hkl0 IH x => ?_) ((_, _, _)) ?_; obtain ⟨x0, x1, x2⟩ := x; simp only [quo_less.l0]; have IHl0 := Hid.mk IH; clear IH; refine sim_mk ?_)
   | refine sF [] true
   | fail)
  | ((with_reducible refine gO ?_); first
   | ((with_reducible refine oGb ?_); refine oIb (fun hb => ?_) (fun hb => ?_))
   | refine oNil (h := ?_)
   | ((with_reducible refine gC ?_); first
    | refine oC true (hh := fun t ht => nat_Sub.holds _ _ _ t ht) (h := fun t => ?_)
    | refine oC true (hh := fun t ht => mul_Small.holds _ _ _ t ht) (h := fun t => ?_)
    | fail)
   | refine oV (h := ?_)
   | fail)
  | ((with_reducible refine gL ?_); first
   | refine lC [] [] []
   | fail)
  | fail

theorem quo_guess.holds (l0 : List Int) (l1 : List Int) (r : Int) (h : quo_guess.f l0 l1 = some r) : Holds Tryz.prog (G0 0) 127 [] [.sl 1 (.int .u32 0) (l0.map (AV.int .u32)), .sl 1 (.int .u32 0) (l1.map (AV.int .u32))] (.int .u32 r) [] := by
 refine holds_of_sim (fun (r : Int) => ⟨.int .u32 r, [], fun _ => True⟩) h Tryz.func127 rfl (by kernel_rfl) 34 rfl (by simp) (by simp) [(0, .sl 1 (.int .u32 0) (l0.map (AV.int .u32))), (1, .sl 1 (.int .u32 0) (l1.map (AV.int .u32)))] rfl [] rfl [.tmp 4] rfl ?_
 clear h
 unfold quo_guess.f
 refine sim_mk ?_
 repeat' first
  | ((with_reducible refine gS ?_); first
   | with_reducible refine sim_seq ?_
   | refine sR (h := ?_)
   | refine sD (hm := by exact mixed) (h := ?_)
   | refine sF [] false
   | fail)
  | ((with_reducible refine gO ?_); first
   | with_reducible exact simB_none
   | ((with_reducible refine oGi ?_); first | refine oT (h := ?_) | refine oF' (h := ?_) | refine oI (fun hb hc => ?_) (fun hb hc => ?_))
   | refine oNil (h := ?_)
   | refine oV (h := ?_)
   | fail)
  | fail

theorem quo_Rem.holds (k : Nat) (l0 : List Int) (l1 : List Int) (r : List Int × List Int × Bool) (h : quo_Rem.f k l0 l1 = some r) : Holds Tryz.prog (G0 0) 98 [] [.sl 1 (.int .u32 0) (l0.map (AV.int .u32)), .sl 1 (.int .u32 0) (l1.map (AV.int .u32))] (.tup [.own 0 0 r.1.length, .own 1 0 r.2.1.length, .bool r.2.2]) [⟨84, 1, (.int .u32 0), r.1.map (AV.int .u32)⟩, ⟨84, 1, (.int .u32 0), r.2.1.map (AV.int .u32)⟩] := by
 refine holds_of_sim (fun (r : List Int × List Int × Bool) => ⟨.tup [.own 0 0 r.1.length, .own 1 0 r.2.1.length, .bool r.2.2], [⟨84, 1, (.int .u32 0), r.1.map (AV.int .u32)⟩, ⟨84, 1, (.int .u32 0), r.2.1.map (AV.int .u32)⟩], fun _ => True⟩) h Tryz.func98 rfl (by kernel_rfl) 72 rfl (by simp) (by simp) [(0, .sl 1 (.int .u32 0) (l0.map (AV.int .u32))), (1, .sl 1 (.int .u32 0) (l1.map (AV.int .u32)))] rfl [] rfl [.tmp 4, .tmp 5, .tmp 6] rfl ?_
 clear h
 unfold quo_Rem.f
 refine sim_mk ?_
 repeat' first
  | ((with_reducible refine gS ?_); first
   | with_reducible refine sim_seq ?_
   | with_reducible refine sim_block ?_
   | with_reducible refine sim_skip ?_
   | with_reducible refine sim_inBlock ?_
   | refine sR (h := ?_)
   | refine sX (h := ?_)
   | refine sY (h := ?_)
   | refine sN (h := ?_)
   | refine IHl0.out _ (_, _, _, _, _, _) _ (by omega) ?_
   | (refine sim_loop (fun k (x : List Int × List Int × List Int × Int × List Int × Int) => match x with | (x0, x1, x4, x7, x8, x9) => quo_Rem.l0 k x0 x1 x4 x7 x8 x9) (fun x => mkS [(0, .sl 1 (.int .u32 0) (x.1.map (AV.int .u32))), (1, .sl 1 (.int .u32 0) (x.2.1.map (AV.int .u32))), (4, .own 1004 0 x.2.2.1.length), (7, .int .i64 x.2.2.2.1), (8, .sl 1 (.int .u32 0) (x.2.2.2.2.1.map (AV.int .u32))), (9, .int .i64 x.2.2.2.2.2)] ([] ++ [1004]) [⟨84, 1, (.int .u32 0), x.2.2.1.map (AV.int .u32)⟩]) _ (fun ⟨_, _, _, _, _, _⟩ => rfl) (fun k hkl0 IH x => ?_) ((_, _, _, _, _, _)) ?_; obtain ⟨x0, x1, x4, x7, x8, x9⟩ := x; simp only [quo_Rem.l0]; obtain ⟨W1, hW⟩ : ∃ W : Int, wrap64 ((x1.length : Int) + 1) = W := ⟨_, rfl⟩; rw [hW]; have IHl0 := Hid.mk IH; clear IH; refine sim_mk ?_)
   | refine sF [] true
   | refine sNil 4 3004 ⟨84, 1, (.int .u32 0), []⟩ (h := ?_)
   | refine sNil 5 3005 ⟨84, 1, (.int .u32 0), []⟩ (h := ?_)
   | fail)
  | ((with_reducible refine gO ?_); first
   | with_reducible exact simB_none
   | ((with_reducible refine oGi ?_); first | refine oT (h := ?_) | refine oF' (h := ?_) | refine oI (fun hb hc => ?_) (fun hb hc => ?_))
   | with_reducible refine simB_let ?_
   | refine oNil (h := ?_)
   | ((with_reducible refine gC ?_); first
    | refine oC true (hh := fun t ht => nat_Trim.holds _ _ t ht) (h := fun t => ?_)
    | refine oC true (hh := fun t ht => bits_LeadingZeros32.holds _ t ht) (h := fun t => ?_)
    | refine oC true (hh := fun t ht => mul_Shift.holds _ _ _ t ht) (h := fun t => ?_)
    | refine oC true (hh := fun t ht => quo_less.holds _ _ _ _ t ht) (h := fun t => ?_)
    | refine oC true (hh := fun t ht => quo_guess.holds _ _ t ht) (h := fun t => ?_)
    | fail)
   | refine oV (h := ?_)
   | refine oS (h := ?_)
   | refine oN (h := ?_)
   | fail)
  | ((with_reducible refine gL ?_); first
   | refine lC [] [4] [1004]
   | fail)
  | fail

theorem quo_Gcd.holds (k : Nat) (l0 : List Int) (l1 : List Int) (r : List Int) (h : quo_Gcd.f k l0 l1 = some r) : Holds Tryz.prog (G0 0) 95 [] [.sl 1 (.int .u32 0) (l0.map (AV.int .u32)), .sl 1 (.int .u32 0) (l1.map (AV.int .u32))] (.sl 1 (.int .u32 0) (r.map (AV.int .u32))) [] := by
 refine holds_of_sim (fun (r : List Int) => ⟨.sl 1 (.int .u32 0) (r.map (AV.int .u32)), [], fun _ => True⟩) h Tryz.func95 rfl (by kernel_rfl) 25 rfl (by simp) (by simp) [(0, .sl 1 (.int .u32 0) (l0.map (AV.int .u32))), (1, .sl 1 (.int .u32 0) (l1.map (AV.int .u32)))] rfl [] rfl [.tmp 4] rfl ?_
 clear h
 unfold quo_Gcd.f
 refine sim_mk ?_
 repeat' first
  | ((with_reducible refine gS ?_); first
   | with_reducible refine sim_seq ?_
   | with_reducible refine sim_block ?_
   | with_reducible refine sim_skip ?_
   | with_reducible refine sim_inBlock ?_
   | refine sR (h := ?_)
   | refine sX (h := ?_)
   | refine sY (h := ?_)
   | refine sN (h := ?_)
   | refine IHl0.out _ (_, _) _ (by omega) ?_
   | (refine sim_loop (fun k (x : List Int × List Int) => match x with | (x0, x1) => quo_Gcd.l0 k x0 x1) (fun x => mkS [(0, .sl 1 (.int .u32 0) (x.1.map (AV.int .u32))), (1, .sl 1 (.int .u32 0) (x.2.map (AV.int .u32)))] ([] ++ []) []) _ (fun ⟨_, _⟩ => rfl) (fun k hkl0 IH x => ?_) ((_, _)) ?_; obtain ⟨x0, x1⟩ := x; simp only [quo_Gcd.l0]; have IHl0 := Hid.mk IH; clear IH; refine sim_mk ?_)
   | refine sF [] false
   | fail)
  | ((with_reducible refine gO ?_); first
   | ((with_reducible refine oGi ?_); first | refine oT (h := ?_) | refine oF' (h := ?_) | refine oI (fun hb hc => ?_) (fun hb hc => ?_))
   | refine oNil (h := ?_)
   | ((with_reducible refine gC ?_); first
    | refine oC true (hh := fun t ht => nat_Trim.holds _ _ t ht) (h := fun t => ?_)
    | refine oC true (hh := fun t ht => quo_Rem.holds _ _ _ t ht) (h := fun t => ?_)
    | fail)
   | refine oV (h := ?_)
   | fail)
  | ((with_reducible refine gL ?_); first
   | refine lC [] [] []
   | fail)
  | fail

end Go.Proofs.YtpchdjdochkjpaaGreatDoor.P
set_option linter.unusedVariables false
set_option linter.unusedSimpArgs false
set_option maxRecDepth 100000
set_option maxHeartbeats 8000000
namespace Go.Proofs.YtpchdjdochkjpaaGreatDoor.P
open Go Go.RowKit Go.Proofs.YtpchdjdochkjpaaGreatDoor.Am Go.Proofs.YtpchdjdochkjpaaGreatDoorW.PrintWords Go.Proofs.YtpchdjdochkjpaaGreatDoorW.PrintMore
attribute [local irreducible] cpy rd bt strOfNums ByteArray.extract
theorem whole_made.holds (k : Nat) (a0 : Bool) (l1 : List Int) (r : Bool × List Int) (h : whole_made.f k a0 l1 = some r) : Holds Tryz.prog (G0 0) 99 [] [.bool a0, .sl 1 (.int .u32 0) (l1.map (AV.int .u32))] (.agg [.bool r.1, .sl 1 (.int .u32 0) (r.2.map (AV.int .u32))]) [] := by
 refine holds_of_sim (fun (r : Bool × List Int) => ⟨.agg [.bool r.1, .sl 1 (.int .u32 0) (r.2.map (AV.int .u32))], [], fun _ => True⟩) h Tryz.func99 rfl (by kernel_rfl) 22 rfl (by simp) (by simp) [(0, .bool a0), (1, .sl 1 (.int .u32 0) (l1.map (AV.int .u32)))] rfl [] rfl [.cell 4 31] rfl ?_
 clear h
 unfold whole_made.f
 refine sim_mk ?_
 repeat' first
  | ((with_reducible refine gS ?_); first
   | with_reducible refine sim_seq ?_
   | refine sR (h := ?_)
   | refine sF [] false
   | fail)
  | ((with_reducible refine gO ?_); first
   | with_reducible exact simB_none
   | ((with_reducible refine oGb ?_); refine oIb (fun hb => ?_) (fun hb => ?_))
   | ((with_reducible refine oGi ?_); first | refine oT (h := ?_) | refine oF' (h := ?_) | refine oI (fun hb hc => ?_) (fun hb hc => ?_))
   | refine oNil (h := ?_)
   | ((with_reducible refine gC ?_); first
    | refine oC true (hh := fun t ht => nat_Trim.holds _ _ t ht) (h := fun t => ?_)
    | fail)
   | refine oV (h := ?_)
   | refine oVg (h := ?_)
   | refine oKg (h := ?_)
   | refine oS (h := ?_)
   | refine oN (h := ?_)
   | fail)
  | fail

theorem whole_Trim.holds (k : Nat) (a0_0 : Bool) (l0_1 : List Int) (r : Bool × List Int) (h : whole_Trim.f k a0_0 l0_1 = some r) : Holds Tryz.prog (G0 0) 96 [] [.agg [.bool a0_0, .sl 1 (.int .u32 0) (l0_1.map (AV.int .u32))]] (.agg [.bool r.1, .sl 1 (.int .u32 0) (r.2.map (AV.int .u32))]) [] := by
 refine holds_of_sim (fun (r : Bool × List Int) => ⟨.agg [.bool r.1, .sl 1 (.int .u32 0) (r.2.map (AV.int .u32))], [], fun _ => True⟩) h Tryz.func96 rfl (by kernel_rfl) 8 rfl (by simp) (by simp) [(0, .agg [.bool a0_0, .sl 1 (.int .u32 0) (l0_1.map (AV.int .u32))])] rfl [] rfl [.cell 2 31] rfl ?_
 clear h
 unfold whole_Trim.f
 refine sim_mk ?_
 repeat' first
  | ((with_reducible refine gS ?_); first
   | with_reducible refine sim_seq ?_
   | refine sR (h := ?_)
   | refine sF [] false
   | fail)
  | ((with_reducible refine gO ?_); first
   | refine oNil (h := ?_)
   | ((with_reducible refine gC ?_); first
    | refine oC false (hh := fun t ht => whole_made.holds _ _ _ t ht) (h := fun t => ?_)
    | fail)
   | refine oV (h := ?_)
   | refine oS (h := ?_)
   | refine oN (h := ?_)
   | fail)
  | fail

theorem whole_Mul.holds (k : Nat) (a0_0 : Bool) (l0_1 : List Int) (a1_0 : Bool) (l1_1 : List Int) (r : Bool × List Int) (h : whole_Mul.f k a0_0 l0_1 a1_0 l1_1 = some r) : Holds Tryz.prog (G0 0) 63 [] [.agg [.bool a0_0, .sl 1 (.int .u32 0) (l0_1.map (AV.int .u32))], .agg [.bool a1_0, .sl 1 (.int .u32 0) (l1_1.map (AV.int .u32))]] (.agg [.bool r.1, .sl 1 (.int .u32 0) (r.2.map (AV.int .u32))]) [] := by
 refine holds_of_sim (fun (r : Bool × List Int) => ⟨.agg [.bool r.1, .sl 1 (.int .u32 0) (r.2.map (AV.int .u32))], [], fun _ => True⟩) h Tryz.func63 rfl (by kernel_rfl) 16 rfl (by simp) (by simp) [(0, .agg [.bool a0_0, .sl 1 (.int .u32 0) (l0_1.map (AV.int .u32))]), (1, .agg [.bool a1_0, .sl 1 (.int .u32 0) (l1_1.map (AV.int .u32))])] rfl [] rfl [.cell 4 31] rfl ?_
 clear h
 unfold whole_Mul.f
 refine sim_mk ?_
 repeat' first
  | ((with_reducible refine gS ?_); first
   | with_reducible refine sim_seq ?_
   | refine sR (h := ?_)
   | refine sD (hm := by exact mixed) (h := ?_)
   | refine sF [] false
   | fail)
  | ((with_reducible refine gO ?_); first
   | refine oNil (h := ?_)
   | ((with_reducible refine gC ?_); first
    | refine oC true (hh := fun t ht => mul_Of.holds _ _ _ t ht) (h := fun t => ?_)
    | refine oC false (hh := fun t ht => whole_made.holds _ _ _ t ht) (h := fun t => ?_)
    | fail)
   | refine oV (h := ?_)
   | refine oS (h := ?_)
   | refine oN (h := ?_)
   | fail)
  | fail

theorem whole_Of.holds (k : Nat) (a0 : Int) (r : Bool × List Int) (h : whole_Of.f k a0 = some r) : Holds Tryz.prog (G0 0) 67 [] [.int .i64 a0] (.agg [.bool r.1, .sl 1 (.int .u32 0) (r.2.map (AV.int .u32))]) [] := by
 refine holds_of_sim (fun (r : Bool × List Int) => ⟨.agg [.bool r.1, .sl 1 (.int .u32 0) (r.2.map (AV.int .u32))], [], fun _ => True⟩) h Tryz.func67 rfl (by kernel_rfl) 14 rfl (by simp) (by simp) [(0, .int .i64 a0)] rfl [] rfl [.cell 2 31] rfl ?_
 clear h
 unfold whole_Of.f
 refine sim_mk ?_
 repeat' first
  | ((with_reducible refine gS ?_); first
   | with_reducible refine sim_seq ?_
   | with_reducible refine sim_skip ?_
   | refine sR (h := ?_)
   | refine sY (h := ?_)
   | refine sN (h := ?_)
   | refine sF [] false
   | fail)
  | ((with_reducible refine gO ?_); first
   | ((with_reducible refine oGi ?_); first | refine oT (h := ?_) | refine oF' (h := ?_) | refine oI (fun hb hc => ?_) (fun hb hc => ?_))
   | refine oNil (h := ?_)
   | ((with_reducible refine gC ?_); first
    | refine oC true (hh := fun t ht => nat_Of.holds _ _ t ht) (h := fun t => ?_)
    | refine oC false (hh := fun t ht => whole_made.holds _ _ _ t ht) (h := fun t => ?_)
    | fail)
   | refine oV (h := ?_)
   | refine oS (h := ?_)
   | refine oN (h := ?_)
   | fail)
  | fail

theorem whole_Neg.holds (k : Nat) (a0_0 : Bool) (l0_1 : List Int) (r : Bool × List Int) (h : whole_Neg.f k a0_0 l0_1 = some r) : Holds Tryz.prog (G0 0) 108 [] [.agg [.bool a0_0, .sl 1 (.int .u32 0) (l0_1.map (AV.int .u32))]] (.agg [.bool r.1, .sl 1 (.int .u32 0) (r.2.map (AV.int .u32))]) [] := by
 refine holds_of_sim (fun (r : Bool × List Int) => ⟨.agg [.bool r.1, .sl 1 (.int .u32 0) (r.2.map (AV.int .u32))], [], fun _ => True⟩) h Tryz.func108 rfl (by kernel_rfl) 9 rfl (by simp) (by simp) [(0, .agg [.bool a0_0, .sl 1 (.int .u32 0) (l0_1.map (AV.int .u32))])] rfl [] rfl [.cell 2 31] rfl ?_
 clear h
 unfold whole_Neg.f
 refine sim_mk ?_
 repeat' first
  | ((with_reducible refine gS ?_); first
   | with_reducible refine sim_seq ?_
   | refine sR (h := ?_)
   | refine sF [] false
   | fail)
  | ((with_reducible refine gO ?_); first
   | refine oNil (h := ?_)
   | ((with_reducible refine gC ?_); first
    | refine oC false (hh := fun t ht => whole_made.holds _ _ _ t ht) (h := fun t => ?_)
    | fail)
   | refine oV (h := ?_)
   | refine oS (h := ?_)
   | refine oN (h := ?_)
   | fail)
  | fail

theorem whole_Cmp.holds (k : Nat) (a0_0 : Bool) (l0_1 : List Int) (a1_0 : Bool) (l1_1 : List Int) (r : Int) (h : whole_Cmp.f k a0_0 l0_1 a1_0 l1_1 = some r) : Holds Tryz.prog (G0 0) 107 [] [.agg [.bool a0_0, .sl 1 (.int .u32 0) (l0_1.map (AV.int .u32))], .agg [.bool a1_0, .sl 1 (.int .u32 0) (l1_1.map (AV.int .u32))]] (.int .i64 r) [] := by
 refine holds_of_sim (fun (r : Int) => ⟨.int .i64 r, [], fun _ => True⟩) h Tryz.func107 rfl (by kernel_rfl) 38 rfl (by simp) (by simp) [(0, .agg [.bool a0_0, .sl 1 (.int .u32 0) (l0_1.map (AV.int .u32))]), (1, .agg [.bool a1_0, .sl 1 (.int .u32 0) (l1_1.map (AV.int .u32))])] rfl [] rfl [.tmp 4] rfl ?_
 clear h
 unfold whole_Cmp.f
 refine sim_mk ?_
 repeat' first
  | ((with_reducible refine gS ?_); first
   | with_reducible refine sim_seq ?_
   | with_reducible refine sim_block ?_
   | with_reducible refine sim_skip ?_
   | with_reducible refine sim_inBlock ?_
   | refine sR (h := ?_)
   | refine sD (hm := by exact mixed) (h := ?_)
   | ((with_reducible refine sGb ?_); first | refine sTe (h := ?_) | refine sFd (h := ?_) | refine sTb (h := ?_) | refine sFb (h := ?_))
   | with_reducible refine sIn (fun hb => ?_) (fun hb => ?_)
   | refine sY (h := ?_)
   | refine sN (h := ?_)
   | (refine sJ (fun k => whole_Cmp.j0 k _ _ _ _ _) rfl (fun k hk => ?_); simp only [whole_Cmp.j0, reduceIte, Bool.false_eq_true, decide_eq_true_eq])
   | (refine sJ (fun k => whole_Cmp.j1 k _ _ _ _ _) rfl (fun k hk => ?_); simp only [whole_Cmp.j1, reduceIte, Bool.false_eq_true, decide_eq_true_eq])
   | refine sF [] false
   | fail)
  | ((with_reducible refine gO ?_); first
   | ((with_reducible refine oGb ?_); first | refine oTe (h := ?_) | refine oFd (h := ?_) | refine oTb (h := ?_) | refine oFb (h := ?_))
   | ((with_reducible refine oGb ?_); refine oIb (fun hb => ?_) (fun hb => ?_))
   | refine oNil (h := ?_)
   | ((with_reducible refine gC ?_); first
    | refine oC true (hh := fun t ht => nat_Cmp.holds _ _ _ t ht) (h := fun t => ?_)
    | refine oC false (hh := fun t ht => whole_Trim.holds _ _ _ t ht) (h := fun t => ?_)
    | fail)
   | refine oV (h := ?_)
   | refine oVg (h := ?_)
   | refine oKg (h := ?_)
   | refine oS (h := ?_)
   | refine oN (h := ?_)
   | (refine oJ (fun k => whole_Cmp.j0 k _ _ _ _ _) rfl (fun k hk => ?_); simp only [whole_Cmp.j0, reduceIte, Bool.false_eq_true, decide_eq_true_eq])
   | (refine oJ (fun k => whole_Cmp.j1 k _ _ _ _ _) rfl (fun k hk => ?_); simp only [whole_Cmp.j1, reduceIte, Bool.false_eq_true, decide_eq_true_eq])
   | fail)
  | fail

end Go.Proofs.YtpchdjdochkjpaaGreatDoor.P
