/- Contracts: each Go function of a package comes to its plain function. · Contracts: each Go function of a package comes to its plain function. · Contracts: each Go function of a package comes to its plain function. · Contracts: each Go function of a package comes to its plain function. -/
import Derived.Test.YtpchdjdochkjpaaGreatDoorMc
import Derived.Test.YtpchdjdochkjpaaGreatDoorMx
set_option linter.unusedVariables false
set_option linter.unusedSimpArgs false
set_option maxRecDepth 100000
set_option maxHeartbeats 8000000
namespace Go.Proofs.YtpchdjdochkjpaaGreatDoor.P
open Go Go.RowKit Go.Proofs.YtpchdjdochkjpaaGreatDoor.Am Go.Proofs.YtpchdjdochkjpaaGreatDoorW.PrintWords Go.Proofs.YtpchdjdochkjpaaGreatDoorW.PrintMore
attribute [local irreducible] cpy rd bt strOfNums ByteArray.extract
theorem steelyardref01_Trim.holds (k : Nat) (l0 : List Int) (r : List Int) (h : steelyardref01_Trim.f k l0 = some r) : Holds Tryz.prog (G0 0) 115 [] [.sl 1 (.int .u32 0) (l0.map (AV.int .u32))] (.own 0 0 r.length) [⟨84, 1, (.int .u32 0), r.map (AV.int .u32)⟩] := by
 refine holds_of_sim (fun (r : List Int) => ⟨.own 0 0 r.length, [⟨84, 1, (.int .u32 0), r.map (AV.int .u32)⟩], fun _ => True⟩) h Tryz.func115 rfl (by kernel_rfl) 23 rfl (by simp) (by simp) [(0, .sl 1 (.int .u32 0) (l0.map (AV.int .u32)))] rfl [] rfl [.tmp 2] rfl ?_
 clear h
 unfold steelyardref01_Trim.f
 refine sim_mk ?_
 repeat' first
  | ((with_reducible refine gS ?_); first
   | with_reducible refine sim_seq ?_
   | with_reducible refine sim_block ?_
   | with_reducible refine sim_skip ?_
   | with_reducible refine sim_inBlock ?_
   | refine sR (h := ?_)
   | refine sX (h := ?_)
   | refine sY (h := ?_)
   | refine sN (h := ?_)
   | refine IHl0.out _ (_, _) _ (by omega) ?_
   | (refine sim_loop (fun k (x : List Int × Int) => match x with | (x0, x3) => steelyardref01_Trim.l0 k x0 x3) (fun x => mkS [(0, .sl 1 (.int .u32 0) (x.1.map (AV.int .u32))), (3, .int .i64 x.2)] ([] ++ []) []) _ (fun ⟨_, _⟩ => rfl) (fun k hkl0 IH x => ?_) ((_, _)) ?_; obtain ⟨x0, x3⟩ := x; simp only [steelyardref01_Trim.l0]; have IHl0 := Hid.mk IH; clear IH; refine sim_mk ?_)
   | refine sF [] true
   | fail)
  | ((with_reducible refine gO ?_); first
   | with_reducible exact simB_none
   | with_reducible refine oIw (fun r1 r2 r3 r4 => ?_)
   | ((with_reducible refine oGi ?_); first | refine oT (h := ?_) | refine oF' (h := ?_) | refine oI (fun hb hc => ?_) (fun hb hc => ?_))
   | with_reducible refine simB_let ?_
   | refine oNil (h := ?_)
   | refine oV (h := ?_)
   | refine oVg (h := ?_)
   | refine oKg (h := ?_)
   | refine oN (h := ?_)
   | refine oA (h := ?_)
   | fail)
  | ((with_reducible refine gL ?_); first
   | refine lC [] [] []
   | fail)
  | fail

theorem steelyardref01_Of.holds (k : Nat) (a0 : Int) (r : List Int) (h : steelyardref01_Of.f k a0 = some r) : Holds Tryz.prog (G0 0) 114 [] [.int .u64 a0] (.own 0 0 r.length) [⟨84, 1, (.int .u32 0), r.map (AV.int .u32)⟩] := by
 refine holds_of_sim (fun (r : List Int) => ⟨.own 0 0 r.length, [⟨84, 1, (.int .u32 0), r.map (AV.int .u32)⟩], fun _ => True⟩) h Tryz.func114 rfl (by kernel_rfl) 10 rfl (by simp) (by simp) [(0, .int .u64 a0)] rfl [] rfl [.tmp 2] rfl ?_
 clear h
 unfold steelyardref01_Of.f
 refine sim_mk ?_
 repeat' first
  | ((with_reducible refine gS ?_); first
   | with_reducible refine sim_seq ?_
   | refine sR (h := ?_)
   | refine sF [] true
   | fail)
  | ((with_reducible refine gO ?_); first
   | refine oNil (h := ?_)
   | ((with_reducible refine gC ?_); first
    | refine oC true (hh := fun t ht => steelyardref01_Trim.holds _ _ t ht) (h := fun t => ?_)
    | fail)
   | refine oV (h := ?_)
   | refine oN (h := ?_)
   | fail)
  | fail

theorem steelyardref01_at.holds (l0 : List Int) (a1 : Int) (r : Int) (h : steelyardref01_at.f l0 a1 = some r) : Holds Tryz.prog (G0 0) 164 [] [.sl 1 (.int .u32 0) (l0.map (AV.int .u32)), .int .i64 a1] (.int .u64 r) [] := by
 refine holds_of_sim (fun (r : Int) => ⟨.int .u64 r, [], fun _ => True⟩) h Tryz.func164 rfl (by kernel_rfl) 14 rfl (by simp) (by simp) [(0, .sl 1 (.int .u32 0) (l0.map (AV.int .u32))), (1, .int .i64 a1)] rfl [] rfl [.tmp 4] rfl ?_
 clear h
 unfold steelyardref01_at.f
 refine sim_mk ?_
 repeat' first
  | ((with_reducible refine gS ?_); first
   | with_reducible refine sim_seq ?_
   | with_reducible refine sim_skip ?_
   | refine sR (h := ?_)
   | refine sY (h := ?_)
   | refine sN (h := ?_)
   | refine sF [] false
   | fail)
  | ((with_reducible refine gO ?_); first
   | with_reducible exact simB_none
   | ((with_reducible refine oGi ?_); first | refine oT (h := ?_) | refine oF' (h := ?_) | refine oI (fun hb hc => ?_) (fun hb hc => ?_))
   | refine oNil (h := ?_)
   | refine oV (h := ?_)
   | fail)
  | fail

theorem steelyardref01_Bit.holds (l0 : List Int) (a1 : Int) (r : Bool) (h : steelyardref01_Bit.f l0 a1 = some r) : Holds Tryz.prog (G0 0) 181 [] [.sl 1 (.int .u32 0) (l0.map (AV.int .u32)), .int .i64 a1] (.bool r) [] := by
 refine holds_of_sim (fun (r : Bool) => ⟨.bool r, [], fun _ => True⟩) h Tryz.func181 rfl (by kernel_rfl) 19 rfl (by simp) (by simp) [(0, .sl 1 (.int .u32 0) (l0.map (AV.int .u32))), (1, .int .i64 a1)] rfl [] rfl [.tmp 4] rfl ?_
 clear h
 unfold steelyardref01_Bit.f
 refine sim_mk ?_
 repeat' first
  | ((with_reducible refine gS ?_); first
   | with_reducible refine sim_seq ?_
   | refine sR (h := ?_)
   | refine sF [] false
   | fail)
  | ((with_reducible refine gO ?_); first
   | with_reducible exact simB_none
   | ((with_reducible refine oGi ?_); first | refine oT (h := ?_) | refine oF' (h := ?_) | refine oI (fun hb hc => ?_) (fun hb hc => ?_))
   | refine oNil (h := ?_)
   | ((with_reducible refine gC ?_); first
    | refine oCg true (hh := fun t ht => steelyardref01_at.holds _ _ t ht) (h := fun t => ?_)
    | fail)
   | refine oV (h := ?_)
   | refine oVg (h := ?_)
   | refine oKg (h := ?_)
   | fail)
  | fail

theorem steelyardref01_Bits.holds (k : Nat) (l0 : List Int) (r : Int) (h : steelyardref01_Bits.f k l0 = some r) : Holds Tryz.prog (G0 0) 152 [] [.sl 1 (.int .u32 0) (l0.map (AV.int .u32))] (.int .i64 r) [] := by
 refine holds_of_sim (fun (r : Int) => ⟨.int .i64 r, [], fun _ => True⟩) h Tryz.func152 rfl (by kernel_rfl) 19 rfl (by simp) (by simp) [(0, .sl 1 (.int .u32 0) (l0.map (AV.int .u32)))] rfl [] rfl [.tmp 2] rfl ?_
 clear h
 unfold steelyardref01_Bits.f
 refine sim_mk ?_
 repeat' first
  | ((with_reducible refine gS ?_); first
   | with_reducible refine sim_seq ?_
   | with_reducible refine sim_block ?_
   | with_reducible refine sim_skip ?_
   | with_reducible refine sim_inBlock ?_
   | refine sR (h := ?_)
   | refine sX (h := ?_)
   | refine sY (h := ?_)
   | refine sN (h := ?_)
   | refine IHl0.out _ (_, _) _ (by omega) ?_
   | (refine sim_loop (fun k (x : List Int × Int) => match x with | (x0, x3) => steelyardref01_Bits.l0 k x0 x3) (fun x => mkS [(0, .sl 1 (.int .u32 0) (x.1.map (AV.int .u32))), (3, .int .i64 x.2)] ([] ++ []) []) _ (fun ⟨_, _⟩ => rfl) (fun k hkl0 IH x => ?_) ((_, _)) ?_; obtain ⟨x0, x3⟩ := x; simp only [steelyardref01_Bits.l0]; have IHl0 := Hid.mk IH; clear IH; refine sim_mk ?_)
   | refine sF [] false
   | fail)
  | ((with_reducible refine gO ?_); first
   | ((with_reducible refine oGb ?_); refine oIb (fun hb => ?_) (fun hb => ?_))
   | ((with_reducible refine oGi ?_); first | refine oT (h := ?_) | refine oF' (h := ?_) | refine oI (fun hb hc => ?_) (fun hb hc => ?_))
   | refine oNil (h := ?_)
   | ((with_reducible refine gC ?_); first
    | refine oCg true (hh := fun t ht => steelyardref01_Bit.holds _ _ t ht) (h := fun t => ?_)
    | fail)
   | refine oV (h := ?_)
   | refine oVg (h := ?_)
   | refine oKg (h := ?_)
   | fail)
  | ((with_reducible refine gL ?_); first
   | refine lC [] [] []
   | fail)
  | fail

theorem steelyardref01_Cmp.holds (k : Nat) (l0 : List Int) (l1 : List Int) (r : Int) (h : steelyardref01_Cmp.f k l0 l1 = some r) : Holds Tryz.prog (G0 0) 153 [] [.sl 1 (.int .u32 0) (l0.map (AV.int .u32)), .sl 1 (.int .u32 0) (l1.map (AV.int .u32))] (.int .i64 r) [] := by
 refine holds_of_sim (fun (r : Int) => ⟨.int .i64 r, [], fun _ => True⟩) h Tryz.func153 rfl (by kernel_rfl) 30 rfl (by simp) (by simp) [(0, .sl 1 (.int .u32 0) (l0.map (AV.int .u32))), (1, .sl 1 (.int .u32 0) (l1.map (AV.int .u32)))] rfl [] rfl [.tmp 4] rfl ?_
 clear h
 unfold steelyardref01_Cmp.f
 refine sim_mk ?_
 repeat' first
  | ((with_reducible refine gS ?_); first
   | with_reducible refine sim_seq ?_
   | with_reducible refine sim_block ?_
   | with_reducible refine sim_skip ?_
   | with_reducible refine sim_inBlock ?_
   | refine sR (h := ?_)
   | refine sX (h := ?_)
   | refine sY (h := ?_)
   | refine sN (h := ?_)
   | refine IHl0.out _ (_, _, _) _ (by omega) ?_
   | (refine sim_loop (fun k (x : List Int × List Int × Int) => match x with | (x0, x1, x5) => steelyardref01_Cmp.l0 k x0 x1 x5) (fun x => mkS [(0, .sl 1 (.int .u32 0) (x.1.map (AV.int .u32))), (1, .sl 1 (.int .u32 0) (x.2.1.map (AV.int .u32))), (5, .int .i64 x.2.2)] ([] ++ []) []) _ (fun ⟨_, _, _⟩ => rfl) (fun k hkl0 IH x => ?_) ((_, _, _)) ?_; obtain ⟨x0, x1, x5⟩ := x; simp only [steelyardref01_Cmp.l0]; have IHl0 := Hid.mk IH; clear IH; refine sim_mk ?_)
   | refine sF [] false
   | fail)
  | ((with_reducible refine gO ?_); first
   | ((with_reducible refine oGi ?_); first | refine oT (h := ?_) | refine oF' (h := ?_) | refine oI (fun hb hc => ?_) (fun hb hc => ?_))
   | refine oNil (h := ?_)
   | ((with_reducible refine gC ?_); first
    | refine oC true (hh := fun t ht => steelyardref01_at.holds _ _ t ht) (h := fun t => ?_)
    | fail)
   | refine oV (h := ?_)
   | fail)
  | ((with_reducible refine gL ?_); first
   | refine lC [] [] []
   | fail)
  | fail

theorem steelyardref01_Sub.holds (k : Nat) (l0 : List Int) (l1 : List Int) (r : List Int) (h : steelyardref01_Sub.f k l0 l1 = some r) : Holds Tryz.prog (G0 0) 154 [] [.sl 1 (.int .u32 0) (l0.map (AV.int .u32)), .sl 1 (.int .u32 0) (l1.map (AV.int .u32))] (.own 0 0 r.length) [⟨84, 1, (.int .u32 0), r.map (AV.int .u32)⟩] := by
 refine holds_of_sim (fun (r : List Int) => ⟨.own 0 0 r.length, [⟨84, 1, (.int .u32 0), r.map (AV.int .u32)⟩], fun _ => True⟩) h Tryz.func154 rfl (by kernel_rfl) 38 rfl (by simp) (by simp) [(0, .sl 1 (.int .u32 0) (l0.map (AV.int .u32))), (1, .sl 1 (.int .u32 0) (l1.map (AV.int .u32)))] rfl [] rfl [.tmp 4] rfl ?_
 clear h
 unfold steelyardref01_Sub.f
 refine sim_mk ?_
 repeat' first
  | ((with_reducible refine gS ?_); first
   | with_reducible refine sim_seq ?_
   | with_reducible refine sim_block ?_
   | with_reducible refine sim_skip ?_
   | with_reducible refine sim_inBlock ?_
   | refine sR (h := ?_)
   | refine sX (h := ?_)
   | refine sY (h := ?_)
   | refine sN (h := ?_)
   | refine IHl0.out _ (_, _, _, _, _) _ (by omega) ?_
   | (refine sim_loop (fun k (x : List Int × List Int × List Int × Int × Int) => match x with | (x0, x1, x5, x6, x7) => steelyardref01_Sub.l0 k x0 x1 x5 x6 x7) (fun x => mkS [(0, .sl 1 (.int .u32 0) (x.1.map (AV.int .u32))), (1, .sl 1 (.int .u32 0) (x.2.1.map (AV.int .u32))), (5, .own 1005 0 x.2.2.1.length), (6, .int .u64 x.2.2.2.1), (7, .int .i64 x.2.2.2.2)] ([] ++ [1005]) [⟨84, 1, (.int .u32 0), x.2.2.1.map (AV.int .u32)⟩]) _ (fun ⟨_, _, _, _, _⟩ => rfl) (fun k hkl0 IH x => ?_) ((_, _, _, _, _)) ?_; obtain ⟨x0, x1, x5, x6, x7⟩ := x; simp only [steelyardref01_Sub.l0]; have IHl0 := Hid.mk IH; clear IH; refine sim_mk ?_)
   | refine sF [] true
   | fail)
  | ((with_reducible refine gO ?_); first
   | with_reducible refine oIw (fun r1 r2 r3 r4 => ?_)
   | ((with_reducible refine oGi ?_); first | refine oT (h := ?_) | refine oF' (h := ?_) | refine oI (fun hb hc => ?_) (fun hb hc => ?_))
   | refine oNil (h := ?_)
   | ((with_reducible refine gC ?_); first
    | refine oC true (hh := fun t ht => steelyardref01_Trim.holds _ _ t ht) (h := fun t => ?_)
    | refine oC true (hh := fun t ht => steelyardref01_at.holds _ _ t ht) (h := fun t => ?_)
    | fail)
   | refine oV (h := ?_)
   | refine oN (h := ?_)
   | refine oA (h := ?_)
   | fail)
  | ((with_reducible refine gL ?_); first
   | refine lC [] [5] [1005]
   | refine lNil 5 2005 ⟨84, 1, (.int .u32 0), []⟩ (h := ?_)
   | fail)
  | fail

theorem steelyardref01_Add.holds (k : Nat) (l0 : List Int) (l1 : List Int) (r : List Int) (h : steelyardref01_Add.f k l0 l1 = some r) : Holds Tryz.prog (G0 0) 129 [] [.sl 1 (.int .u32 0) (l0.map (AV.int .u32)), .sl 1 (.int .u32 0) (l1.map (AV.int .u32))] (.own 0 0 r.length) [⟨84, 1, (.int .u32 0), r.map (AV.int .u32)⟩] := by
 refine holds_of_sim (fun (r : List Int) => ⟨.own 0 0 r.length, [⟨84, 1, (.int .u32 0), r.map (AV.int .u32)⟩], fun _ => True⟩) h Tryz.func129 rfl (by kernel_rfl) 42 rfl (by simp) (by simp) [(0, .sl 1 (.int .u32 0) (l0.map (AV.int .u32))), (1, .sl 1 (.int .u32 0) (l1.map (AV.int .u32)))] rfl [] rfl [.tmp 4] rfl ?_
 clear h
 unfold steelyardref01_Add.f
 refine sim_mk ?_
 repeat' first
  | ((with_reducible refine gS ?_); first
   | with_reducible refine sim_seq ?_
   | with_reducible refine sim_block ?_
   | with_reducible refine sim_skip ?_
   | with_reducible refine sim_inBlock ?_
   | refine sR (h := ?_)
   | refine sX (h := ?_)
   | ((with_reducible refine sGi ?_); first | refine sT (h := ?_) | refine sF' (h := ?_) | refine sI (fun hb hc => ?_) (fun hb hc => ?_))
   | refine sY (h := ?_)
   | refine sN (h := ?_)
   | refine IHl0.out _ (_, _, _, _, _) _ (by omega) ?_
   | (refine sim_loop (fun k (x : List Int × List Int × List Int × Int × Int) => match x with | (x0, x1, x5, x6, x7) => steelyardref01_Add.l0 k x0 x1 x5 x6 x7) (fun x => mkS [(0, .sl 1 (.int .u32 0) (x.1.map (AV.int .u32))), (1, .sl 1 (.int .u32 0) (x.2.1.map (AV.int .u32))), (5, .own 1005 0 x.2.2.1.length), (6, .int .u64 x.2.2.2.1), (7, .int .i64 x.2.2.2.2)] ([] ++ [1005]) [⟨84, 1, (.int .u32 0), x.2.2.1.map (AV.int .u32)⟩]) _ (fun ⟨_, _, _, _, _⟩ => rfl) (fun k hkl0 IH x => ?_) ((_, _, _, _, _)) ?_; obtain ⟨x0, x1, x5, x6, x7⟩ := x; simp only [steelyardref01_Add.l0]; have IHl0 := Hid.mk IH; clear IH; refine sim_mk ?_)
   | (refine sJ (fun k => steelyardref01_Add.j1 k _ _ _ _ _ _) rfl (fun k hk => ?_); simp only [steelyardref01_Add.j1, reduceIte, Bool.false_eq_true, decide_eq_true_eq])
   | refine sF [] true
   | fail)
  | ((with_reducible refine gO ?_); first
   | with_reducible refine oIw (fun r1 r2 r3 r4 => ?_)
   | ((with_reducible refine oGi ?_); first | refine oT (h := ?_) | refine oF' (h := ?_) | refine oI (fun hb hc => ?_) (fun hb hc => ?_))
   | refine oNil (h := ?_)
   | ((with_reducible refine gC ?_); first
    | refine oC true (hh := fun t ht => steelyardref01_Trim.holds _ _ t ht) (h := fun t => ?_)
    | refine oC true (hh := fun t ht => steelyardref01_at.holds _ _ t ht) (h := fun t => ?_)
    | fail)
   | refine oV (h := ?_)
   | refine oVg (h := ?_)
   | refine oKg (h := ?_)
   | refine oN (h := ?_)
   | refine oA (h := ?_)
   | (refine oJ (fun k => steelyardref01_Add.j1 k _ _ _ _ _ _) rfl (fun k hk => ?_); simp only [steelyardref01_Add.j1, reduceIte, Bool.false_eq_true, decide_eq_true_eq])
   | fail)
  | ((with_reducible refine gL ?_); first
   | refine lC [] [5] [1005]
   | refine lNil 5 2005 ⟨84, 1, (.int .u32 0), []⟩ (h := ?_)
   | fail)
  | fail

end Go.Proofs.YtpchdjdochkjpaaGreatDoor.P
set_option linter.unusedVariables false
set_option linter.unusedSimpArgs false
set_option maxRecDepth 100000
set_option maxHeartbeats 8000000
namespace Go.Proofs.YtpchdjdochkjpaaGreatDoor.P
open Go Go.RowKit Go.Proofs.YtpchdjdochkjpaaGreatDoor.Am Go.Proofs.YtpchdjdochkjpaaGreatDoorW.PrintWords Go.Proofs.YtpchdjdochkjpaaGreatDoorW.PrintMore
attribute [local irreducible] cpy rd bt strOfNums ByteArray.extract
theorem steelyardref02_Up.holds (k : Nat) (l0 : List Int) (a1 : Int) (r : List Int) (h : steelyardref02_Up.f k l0 a1 = some r) : Holds Tryz.prog (G0 0) 130 [] [.sl 1 (.int .u32 0) (l0.map (AV.int .u32)), .int .i64 a1] (.own 0 0 r.length) [⟨84, 1, (.int .u32 0), r.map (AV.int .u32)⟩] := by
 refine holds_of_sim (fun (r : List Int) => ⟨.own 0 0 r.length, [⟨84, 1, (.int .u32 0), r.map (AV.int .u32)⟩], fun _ => True⟩) h Tryz.func130 rfl (by kernel_rfl) 47 rfl (by simp) (by simp) [(0, .sl 1 (.int .u32 0) (l0.map (AV.int .u32))), (1, .int .i64 a1)] rfl [] rfl [.tmp 4] rfl ?_
 clear h
 unfold steelyardref02_Up.f
 refine sim_mk ?_
 repeat' first
  | ((with_reducible refine gS ?_); first
   | with_reducible refine sim_seq ?_
   | with_reducible refine sim_block ?_
   | with_reducible refine sim_skip ?_
   | with_reducible refine sim_inBlock ?_
   | refine sR (h := ?_)
   | refine sX (h := ?_)
   | refine sY (h := ?_)
   | refine sN (h := ?_)
   | refine IHl0.out _ (_, _, _, _, _) _ (by omega) ?_
   | (refine sim_loop (fun k (x : List Int × Int × List Int × Int × Int) => match x with | (x0, x1, x5, x6, x7) => steelyardref02_Up.l0 k x0 x1 x5 x6 x7) (fun x => mkS [(0, .sl 1 (.int .u32 0) (x.1.map (AV.int .u32))), (1, .int .i64 x.2.1), (5, .own 1005 0 x.2.2.1.length), (6, .int .u64 x.2.2.2.1), (7, .int .i64 x.2.2.2.2)] ([] ++ [1005]) [⟨84, 1, (.int .u32 0), x.2.2.1.map (AV.int .u32)⟩]) _ (fun ⟨_, _, _, _, _⟩ => rfl) (fun k hkl0 IH x => ?_) ((_, _, _, _, _)) ?_; obtain ⟨x0, x1, x5, x6, x7⟩ := x; simp only [steelyardref02_Up.l0]; have IHl0 := Hid.mk IH; clear IH; refine sim_mk ?_)
   | refine sF [] true
   | fail)
  | ((with_reducible refine gO ?_); first
   | with_reducible exact simB_none
   | with_reducible refine oIw (fun r1 r2 r3 r4 => ?_)
   | ((with_reducible refine oGi ?_); first | refine oT (h := ?_) | refine oF' (h := ?_) | refine oI (fun hb hc => ?_) (fun hb hc => ?_))
   | refine oNil (h := ?_)
   | ((with_reducible refine gC ?_); first
    | refine oC true (hh := fun t ht => steelyardref01_Trim.holds _ _ t ht) (h := fun t => ?_)
    | fail)
   | refine oV (h := ?_)
   | refine oN (h := ?_)
   | refine oA (h := ?_)
   | fail)
  | ((with_reducible refine gL ?_); first
   | refine lC [] [5] [1005]
   | fail)
  | fail

theorem steelyardref02_Down.holds (k : Nat) (l0 : List Int) (a1 : Int) (r : List Int) (h : steelyardref02_Down.f k l0 a1 = some r) : Holds Tryz.prog (G0 0) 155 [] [.sl 1 (.int .u32 0) (l0.map (AV.int .u32)), .int .i64 a1] (.own 0 0 r.length) [⟨84, 1, (.int .u32 0), r.map (AV.int .u32)⟩] := by
 refine holds_of_sim (fun (r : List Int) => ⟨.own 0 0 r.length, [⟨84, 1, (.int .u32 0), r.map (AV.int .u32)⟩], fun _ => True⟩) h Tryz.func155 rfl (by kernel_rfl) 46 rfl (by simp) (by simp) [(0, .sl 1 (.int .u32 0) (l0.map (AV.int .u32))), (1, .int .i64 a1)] rfl [] rfl [.tmp 4] rfl ?_
 clear h
 unfold steelyardref02_Down.f
 refine sim_mk ?_
 repeat' first
  | ((with_reducible refine gS ?_); first
   | with_reducible refine sim_seq ?_
   | with_reducible refine sim_block ?_
   | with_reducible refine sim_skip ?_
   | with_reducible refine sim_inBlock ?_
   | refine sR (h := ?_)
   | refine sX (h := ?_)
   | refine sY (h := ?_)
   | refine sN (h := ?_)
   | refine IHl0.out _ (_, _, _, _) _ (by omega) ?_
   | (refine sim_loop (fun k (x : List Int × Int × List Int × Int) => match x with | (x0, x1, x5, x6) => steelyardref02_Down.l0 k x0 x1 x5 x6) (fun x => mkS [(0, .sl 1 (.int .u32 0) (x.1.map (AV.int .u32))), (1, .int .i64 x.2.1), (5, .own 1005 0 x.2.2.1.length), (6, .int .i64 x.2.2.2)] ([] ++ [1005]) [⟨84, 1, (.int .u32 0), x.2.2.1.map (AV.int .u32)⟩]) _ (fun ⟨_, _, _, _⟩ => rfl) (fun k hkl0 IH x => ?_) ((_, _, _, _)) ?_; obtain ⟨x0, x1, x5, x6⟩ := x; simp only [steelyardref02_Down.l0]; have IHl0 := Hid.mk IH; clear IH; refine sim_mk ?_)
   | refine sF [] true
   | fail)
  | ((with_reducible refine gO ?_); first
   | with_reducible exact simB_none
   | with_reducible refine oIw (fun r1 r2 r3 r4 => ?_)
   | ((with_reducible refine oGi ?_); first | refine oT (h := ?_) | refine oF' (h := ?_) | refine oI (fun hb hc => ?_) (fun hb hc => ?_))
   | refine oNil (h := ?_)
   | ((with_reducible refine gC ?_); first
    | refine oC true (hh := fun t ht => steelyardref01_Trim.holds _ _ t ht) (h := fun t => ?_)
    | fail)
   | refine oV (h := ?_)
   | refine oN (h := ?_)
   | refine oA (h := ?_)
   | fail)
  | ((with_reducible refine gL ?_); first
   | refine lC [] [5] [1005]
   | refine lNil 5 2005 ⟨84, 1, (.int .u32 0), []⟩ (h := ?_)
   | fail)
  | fail

theorem steelyardref02_Small.holds (k : Nat) (l0 : List Int) (a1 : Int) (r : List Int) (h : steelyardref02_Small.f k l0 a1 = some r) : Holds Tryz.prog (G0 0) 131 [] [.sl 1 (.int .u32 0) (l0.map (AV.int .u32)), .int .u32 a1] (.own 0 0 r.length) [⟨84, 1, (.int .u32 0), r.map (AV.int .u32)⟩] := by
 refine holds_of_sim (fun (r : List Int) => ⟨.own 0 0 r.length, [⟨84, 1, (.int .u32 0), r.map (AV.int .u32)⟩], fun _ => True⟩) h Tryz.func131 rfl (by kernel_rfl) 37 rfl (by simp) (by simp) [(0, .sl 1 (.int .u32 0) (l0.map (AV.int .u32))), (1, .int .u32 a1)] rfl [] rfl [.tmp 4] rfl ?_
 clear h
 unfold steelyardref02_Small.f
 refine sim_mk ?_
 repeat' first
  | ((with_reducible refine gS ?_); first
   | with_reducible refine sim_seq ?_
   | with_reducible refine sim_block ?_
   | with_reducible refine sim_skip ?_
   | with_reducible refine sim_inBlock ?_
   | refine sR (h := ?_)
   | refine sX (h := ?_)
   | refine sY (h := ?_)
   | refine sN (h := ?_)
   | refine IHl0.out _ (_, _, _, _, _) _ (by omega) ?_
   | (refine sim_loop (fun k (x : List Int × Int × List Int × Int × Int) => match x with | (x0, x1, x5, x6, x7) => steelyardref02_Small.l0 k x0 x1 x5 x6 x7) (fun x => mkS [(0, .sl 1 (.int .u32 0) (x.1.map (AV.int .u32))), (1, .int .u32 x.2.1), (5, .own 1005 0 x.2.2.1.length), (6, .int .u64 x.2.2.2.1), (7, .int .i64 x.2.2.2.2)] ([] ++ [1005]) [⟨84, 1, (.int .u32 0), x.2.2.1.map (AV.int .u32)⟩]) _ (fun ⟨_, _, _, _, _⟩ => rfl) (fun k hkl0 IH x => ?_) ((_, _, _, _, _)) ?_; obtain ⟨x0, x1, x5, x6, x7⟩ := x; simp only [steelyardref02_Small.l0]; have IHl0 := Hid.mk IH; clear IH; refine sim_mk ?_)
   | refine sF [] true
   | fail)
  | ((with_reducible refine gO ?_); first
   | with_reducible exact simB_none
   | with_reducible refine oIw (fun r1 r2 r3 r4 => ?_)
   | ((with_reducible refine oGi ?_); first | refine oT (h := ?_) | refine oF' (h := ?_) | refine oI (fun hb hc => ?_) (fun hb hc => ?_))
   | refine oNil (h := ?_)
   | ((with_reducible refine gC ?_); first
    | refine oC true (hh := fun t ht => steelyardref01_Trim.holds _ _ t ht) (h := fun t => ?_)
    | fail)
   | refine oV (h := ?_)
   | refine oN (h := ?_)
   | refine oA (h := ?_)
   | fail)
  | ((with_reducible refine gL ?_); first
   | refine lC [] [5] [1005]
   | refine lNil 5 2005 ⟨84, 1, (.int .u32 0), []⟩ (h := ?_)
   | fail)
  | fail

theorem steelyardref02_Of.holds (k : Nat) (l0 : List Int) (l1 : List Int) (r : List Int) (h : steelyardref02_Of.f k l0 l1 = some r) : Holds Tryz.prog (G0 0) 102 [] [.sl 1 (.int .u32 0) (l0.map (AV.int .u32)), .sl 1 (.int .u32 0) (l1.map (AV.int .u32))] (.own 0 0 r.length) [⟨84, 1, (.int .u32 0), r.map (AV.int .u32)⟩] := by
 refine holds_of_sim (fun (r : List Int) => ⟨.own 0 0 r.length, [⟨84, 1, (.int .u32 0), r.map (AV.int .u32)⟩], fun _ => True⟩) h Tryz.func102 rfl (by kernel_rfl) 26 rfl (by simp) (by simp) [(0, .sl 1 (.int .u32 0) (l0.map (AV.int .u32))), (1, .sl 1 (.int .u32 0) (l1.map (AV.int .u32)))] rfl [] rfl [.tmp 4] rfl ?_
 clear h
 unfold steelyardref02_Of.f
 refine sim_mk ?_
 repeat' first
  | ((with_reducible refine gS ?_); first
   | with_reducible refine sim_seq ?_
   | with_reducible refine sim_block ?_
   | with_reducible refine sim_skip ?_
   | with_reducible refine sim_inBlock ?_
   | refine sR (h := ?_)
   | refine sX (h := ?_)
   | refine sY (h := ?_)
   | refine sN (h := ?_)
   | refine IHl0.out _ (_, _, _, _) _ (by omega) ?_
   | (refine sim_loop (fun k (x : List Int × List Int × List Int × Int) => match x with | (x0, x1, x5, x6) => steelyardref02_Of.l0 k x0 x1 x5 x6) (fun x => mkS [(0, .sl 1 (.int .u32 0) (x.1.map (AV.int .u32))), (1, .sl 1 (.int .u32 0) (x.2.1.map (AV.int .u32))), (5, .sl 1 (.int .u32 0) (x.2.2.1.map (AV.int .u32))), (6, .int .i64 x.2.2.2)] ([] ++ []) []) _ (fun ⟨_, _, _, _⟩ => rfl) (fun k hkl0 IH x => ?_) ((_, _, _, _)) ?_; obtain ⟨x0, x1, x5, x6⟩ := x; simp only [steelyardref02_Of.l0]; have IHl0 := Hid.mk IH; clear IH; refine sim_mk ?_)
   | refine sF [] true
   | fail)
  | ((with_reducible refine gO ?_); first
   | with_reducible exact simB_none
   | ((with_reducible refine oGi ?_); first | refine oT (h := ?_) | refine oF' (h := ?_) | refine oI (fun hb hc => ?_) (fun hb hc => ?_))
   | refine oNil (h := ?_)
   | ((with_reducible refine gC ?_); first
    | refine oC true (hh := fun t ht => steelyardref01_Trim.holds _ _ t ht) (h := fun t => ?_)
    | refine oC true (hh := fun t ht => steelyardref01_Add.holds _ _ _ t ht) (h := fun t => ?_)
    | refine oC true (hh := fun t ht => steelyardref02_Up.holds _ _ _ t ht) (h := fun t => ?_)
    | refine oC true (hh := fun t ht => steelyardref02_Small.holds _ _ _ t ht) (h := fun t => ?_)
    | fail)
   | refine oV (h := ?_)
   | fail)
  | ((with_reducible refine gL ?_); first
   | refine lC [] [] []
   | refine lNilF 5 1 (.int .u32 0) (h := ?_)
   | fail)
  | fail

end Go.Proofs.YtpchdjdochkjpaaGreatDoor.P
set_option linter.unusedVariables false
set_option linter.unusedSimpArgs false
set_option maxRecDepth 100000
set_option maxHeartbeats 8000000
namespace Go.Proofs.YtpchdjdochkjpaaGreatDoor.P
open Go Go.RowKit Go.Proofs.YtpchdjdochkjpaaGreatDoor.Am Go.Proofs.YtpchdjdochkjpaaGreatDoorW.PrintWords Go.Proofs.YtpchdjdochkjpaaGreatDoorW.PrintMore
attribute [local irreducible] cpy rd bt strOfNums ByteArray.extract
theorem steelyardref03_Rem.holds (k : Nat) (l0 : List Int) (l1 : List Int) (r : List Int × List Int × Bool) (h : steelyardref03_Rem.f k l0 l1 = some r) : Holds Tryz.prog (G0 0) 119 [] [.sl 1 (.int .u32 0) (l0.map (AV.int .u32)), .sl 1 (.int .u32 0) (l1.map (AV.int .u32))] (.agg [.sl 1 (.int .u32 0) (r.1.map (AV.int .u32)), .sl 1 (.int .u32 0) (r.2.1.map (AV.int .u32)), .bool r.2.2]) [] := by
 refine holds_of_sim (fun (r : List Int × List Int × Bool) => ⟨.agg [.sl 1 (.int .u32 0) (r.1.map (AV.int .u32)), .sl 1 (.int .u32 0) (r.2.1.map (AV.int .u32)), .bool r.2.2], [], fun _ => True⟩) h Tryz.func119 rfl (by kernel_rfl) 58 rfl (by simp) (by simp) [(0, .sl 1 (.int .u32 0) (l0.map (AV.int .u32))), (1, .sl 1 (.int .u32 0) (l1.map (AV.int .u32)))] rfl [] rfl [.cell 4 164] rfl ?_
 clear h
 unfold steelyardref03_Rem.f
 refine sim_mk ?_
 repeat' first
  | ((with_reducible refine gS ?_); first
   | with_reducible refine sim_seq ?_
   | with_reducible refine sim_block ?_
   | with_reducible refine sim_skip ?_
   | with_reducible refine sim_inBlock ?_
   | refine sR (h := ?_)
   | refine sX (h := ?_)
   | refine sY (h := ?_)
   | refine sN (h := ?_)
   | refine IHl0.out _ (_, _, _, _) _ (by omega) ?_
   | (refine sim_loop (fun k (x : List Int × List Int × List Int × Int) => match x with | (x5, x7, x8, x9) => steelyardref03_Rem.l0 k x5 x7 x8 x9) (fun x => mkS [(5, .sl 1 (.int .u32 0) (x.1.map (AV.int .u32))), (7, .own 1007 0 x.2.1.length), (8, .sl 1 (.int .u32 0) (x.2.2.1.map (AV.int .u32))), (9, .int .i64 x.2.2.2), (4, .optr 1004 0 0)] ([] ++ [1007, 1004]) [⟨84, 1, (.int .u32 0), x.2.1.map (AV.int .u32)⟩, ⟨164, 3, (.agg [.nil, .nil, (.bool false)]), [(.agg [.nil, .nil, (.bool false)])]⟩]) _ (fun ⟨_, _, _, _⟩ => rfl) (fun k hkl0 IH x => ?_) ((_, _, _, _)) ?_; obtain ⟨x5, x7, x8, x9⟩ := x; simp only [steelyardref03_Rem.l0]; have IHl0 := Hid.mk IH; clear IH; refine sim_mk ?_)
   | refine sF [] false
   | fail)
  | ((with_reducible refine gO ?_); first
   | with_reducible exact simB_none
   | ((with_reducible refine oGi ?_); first | refine oT (h := ?_) | refine oF' (h := ?_) | refine oI (fun hb hc => ?_) (fun hb hc => ?_))
   | refine oNil (h := ?_)
   | ((with_reducible refine gC ?_); first
    | refine oC true (hh := fun t ht => steelyardref01_Trim.holds _ _ t ht) (h := fun t => ?_)
    | refine oC true (hh := fun t ht => steelyardref02_Up.holds _ _ _ t ht) (h := fun t => ?_)
    | refine oC true (hh := fun t ht => steelyardref01_Bits.holds _ _ t ht) (h := fun t => ?_)
    | refine oC true (hh := fun t ht => steelyardref01_Cmp.holds _ _ _ t ht) (h := fun t => ?_)
    | refine oC true (hh := fun t ht => steelyardref01_Sub.holds _ _ _ t ht) (h := fun t => ?_)
    | refine oC true (hh := fun t ht => steelyardref02_Down.holds _ _ _ t ht) (h := fun t => ?_)
    | fail)
   | refine oV (h := ?_)
   | refine oS (h := ?_)
   | refine oN (h := ?_)
   | fail)
  | ((with_reducible refine gL ?_); first
   | refine lC [] [7, 4] [1007, 1004]
   | fail)
  | fail

theorem steelyardref03_Gcd.holds (k : Nat) (l0 : List Int) (l1 : List Int) (r : List Int) (h : steelyardref03_Gcd.f k l0 l1 = some r) : Holds Tryz.prog (G0 0) 91 [] [.sl 1 (.int .u32 0) (l0.map (AV.int .u32)), .sl 1 (.int .u32 0) (l1.map (AV.int .u32))] (.sl 1 (.int .u32 0) (r.map (AV.int .u32))) [] := by
 refine holds_of_sim (fun (r : List Int) => ⟨.sl 1 (.int .u32 0) (r.map (AV.int .u32)), [], fun _ => True⟩) h Tryz.func91 rfl (by kernel_rfl) 20 rfl (by simp) (by simp) [(0, .sl 1 (.int .u32 0) (l0.map (AV.int .u32))), (1, .sl 1 (.int .u32 0) (l1.map (AV.int .u32)))] rfl [] rfl [.tmp 4] rfl ?_
 clear h
 unfold steelyardref03_Gcd.f
 refine sim_mk ?_
 repeat' first
  | ((with_reducible refine gS ?_); first
   | with_reducible refine sim_seq ?_
   | with_reducible refine sim_block ?_
   | with_reducible refine sim_skip ?_
   | with_reducible refine sim_inBlock ?_
   | refine sR (h := ?_)
   | refine sX (h := ?_)
   | refine sY (h := ?_)
   | refine sN (h := ?_)
   | refine IHl0.out _ (_, _) _ (by omega) ?_
   | (refine sim_loop (fun k (x : List Int × List Int) => match x with | (x5, x6) => steelyardref03_Gcd.l0 k x5 x6) (fun x => mkS [(5, .sl 1 (.int .u32 0) (x.1.map (AV.int .u32))), (6, .sl 1 (.int .u32 0) (x.2.map (AV.int .u32)))] ([] ++ []) []) _ (fun ⟨_, _⟩ => rfl) (fun k hkl0 IH x => ?_) ((_, _)) ?_; obtain ⟨x5, x6⟩ := x; simp only [steelyardref03_Gcd.l0]; have IHl0 := Hid.mk IH; clear IH; refine sim_mk ?_)
   | refine sF [] false
   | fail)
  | ((with_reducible refine gO ?_); first
   | ((with_reducible refine oGi ?_); first | refine oT (h := ?_) | refine oF' (h := ?_) | refine oI (fun hb hc => ?_) (fun hb hc => ?_))
   | refine oNil (h := ?_)
   | ((with_reducible refine gC ?_); first
    | refine oC true (hh := fun t ht => steelyardref01_Trim.holds _ _ t ht) (h := fun t => ?_)
    | refine oC false (hh := fun t ht => steelyardref03_Rem.holds _ _ _ t ht) (h := fun t => ?_)
    | fail)
   | refine oV (h := ?_)
   | fail)
  | ((with_reducible refine gL ?_); first
   | refine lC [] [] []
   | fail)
  | fail

end Go.Proofs.YtpchdjdochkjpaaGreatDoor.P
set_option linter.unusedVariables false
set_option linter.unusedSimpArgs false
set_option maxRecDepth 100000
set_option maxHeartbeats 8000000
namespace Go.Proofs.YtpchdjdochkjpaaGreatDoor.P
open Go Go.RowKit Go.Proofs.YtpchdjdochkjpaaGreatDoor.Am Go.Proofs.YtpchdjdochkjpaaGreatDoorW.PrintWords Go.Proofs.YtpchdjdochkjpaaGreatDoorW.PrintMore
attribute [local irreducible] cpy rd bt strOfNums ByteArray.extract
theorem steelyardref06_Make.holds (k : Nat) (a0 : Bool) (l1 : List Int) (r : Bool × List Int) (h : steelyardref06_Make.f k a0 l1 = some r) : Holds Tryz.prog (G0 0) 86 [] [.bool a0, .sl 1 (.int .u32 0) (l1.map (AV.int .u32))] (.agg [.bool r.1, .sl 1 (.int .u32 0) (r.2.map (AV.int .u32))]) [] := by
 refine holds_of_sim (fun (r : Bool × List Int) => ⟨.agg [.bool r.1, .sl 1 (.int .u32 0) (r.2.map (AV.int .u32))], [], fun _ => True⟩) h Tryz.func86 rfl (by kernel_rfl) 16 rfl (by simp) (by simp) [(0, .bool a0), (1, .sl 1 (.int .u32 0) (l1.map (AV.int .u32)))] rfl [] rfl [.cell 4 31] rfl ?_
 clear h
 unfold steelyardref06_Make.f
 refine sim_mk ?_
 repeat' first
  | ((with_reducible refine gS ?_); first
   | with_reducible refine sim_seq ?_
   | refine sR (h := ?_)
   | refine sF [] false
   | fail)
  | ((with_reducible refine gO ?_); first
   | ((with_reducible refine oGb ?_); refine oIb (fun hb => ?_) (fun hb => ?_))
   | refine oNil (h := ?_)
   | ((with_reducible refine gC ?_); first
    | refine oC true (hh := fun t ht => steelyardref01_Trim.holds _ _ t ht) (h := fun t => ?_)
    | fail)
   | refine oV (h := ?_)
   | refine oVg (h := ?_)
   | refine oKg (h := ?_)
   | refine oS (h := ?_)
   | refine oN (h := ?_)
   | fail)
  | fail

theorem steelyardref06_Of.holds (k : Nat) (a0 : Int) (r : Bool × List Int) (h : steelyardref06_Of.f k a0 = some r) : Holds Tryz.prog (G0 0) 82 [] [.int .i64 a0] (.agg [.bool r.1, .sl 1 (.int .u32 0) (r.2.map (AV.int .u32))]) [] := by
 refine holds_of_sim (fun (r : Bool × List Int) => ⟨.agg [.bool r.1, .sl 1 (.int .u32 0) (r.2.map (AV.int .u32))], [], fun _ => True⟩) h Tryz.func82 rfl (by kernel_rfl) 16 rfl (by simp) (by simp) [(0, .int .i64 a0)] rfl [] rfl [.cell 2 31] rfl ?_
 clear h
 unfold steelyardref06_Of.f
 refine sim_mk ?_
 repeat' first
  | ((with_reducible refine gS ?_); first
   | with_reducible refine sim_seq ?_
   | with_reducible refine sim_skip ?_
   | refine sR (h := ?_)
   | refine sY (h := ?_)
   | refine sN (h := ?_)
   | refine sF [] false
   | fail)
  | ((with_reducible refine gO ?_); first
   | ((with_reducible refine oGi ?_); first | refine oT (h := ?_) | refine oF' (h := ?_) | refine oI (fun hb hc => ?_) (fun hb hc => ?_))
   | refine oNil (h := ?_)
   | ((with_reducible refine gC ?_); first
    | refine oC false (hh := fun t ht => steelyardref06_Make.holds _ _ _ t ht) (h := fun t => ?_)
    | refine oC true (hh := fun t ht => steelyardref01_Of.holds _ _ t ht) (h := fun t => ?_)
    | fail)
   | refine oV (h := ?_)
   | refine oS (h := ?_)
   | refine oN (h := ?_)
   | fail)
  | fail

theorem steelyardref06_Trim.holds (k : Nat) (a0_0 : Bool) (l0_1 : List Int) (r : Bool × List Int) (h : steelyardref06_Trim.f k a0_0 l0_1 = some r) : Holds Tryz.prog (G0 0) 128 [] [.agg [.bool a0_0, .sl 1 (.int .u32 0) (l0_1.map (AV.int .u32))]] (.agg [.bool r.1, .sl 1 (.int .u32 0) (r.2.map (AV.int .u32))]) [] := by
 refine holds_of_sim (fun (r : Bool × List Int) => ⟨.agg [.bool r.1, .sl 1 (.int .u32 0) (r.2.map (AV.int .u32))], [], fun _ => True⟩) h Tryz.func128 rfl (by kernel_rfl) 8 rfl (by simp) (by simp) [(0, .agg [.bool a0_0, .sl 1 (.int .u32 0) (l0_1.map (AV.int .u32))])] rfl [] rfl [.cell 2 31] rfl ?_
 clear h
 unfold steelyardref06_Trim.f
 refine sim_mk ?_
 repeat' first
  | ((with_reducible refine gS ?_); first
   | with_reducible refine sim_seq ?_
   | refine sR (h := ?_)
   | refine sF [] false
   | fail)
  | ((with_reducible refine gO ?_); first
   | refine oNil (h := ?_)
   | ((with_reducible refine gC ?_); first
    | refine oC false (hh := fun t ht => steelyardref06_Make.holds _ _ _ t ht) (h := fun t => ?_)
    | fail)
   | refine oV (h := ?_)
   | refine oS (h := ?_)
   | refine oN (h := ?_)
   | fail)
  | fail

theorem steelyardref06_Mul.holds (k : Nat) (a0_0 : Bool) (l0_1 : List Int) (a1_0 : Bool) (l1_1 : List Int) (r : Bool × List Int) (h : steelyardref06_Mul.f k a0_0 l0_1 a1_0 l1_1 = some r) : Holds Tryz.prog (G0 0) 101 [] [.agg [.bool a0_0, .sl 1 (.int .u32 0) (l0_1.map (AV.int .u32))], .agg [.bool a1_0, .sl 1 (.int .u32 0) (l1_1.map (AV.int .u32))]] (.agg [.bool r.1, .sl 1 (.int .u32 0) (r.2.map (AV.int .u32))]) [] := by
 refine holds_of_sim (fun (r : Bool × List Int) => ⟨.agg [.bool r.1, .sl 1 (.int .u32 0) (r.2.map (AV.int .u32))], [], fun _ => True⟩) h Tryz.func101 rfl (by kernel_rfl) 18 rfl (by simp) (by simp) [(0, .agg [.bool a0_0, .sl 1 (.int .u32 0) (l0_1.map (AV.int .u32))]), (1, .agg [.bool a1_0, .sl 1 (.int .u32 0) (l1_1.map (AV.int .u32))])] rfl [] rfl [.cell 4 31] rfl ?_
 clear h
 unfold steelyardref06_Mul.f
 refine sim_mk ?_
 repeat' first
  | ((with_reducible refine gS ?_); first
   | with_reducible refine sim_seq ?_
   | refine sR (h := ?_)
   | refine sD (hm := by exact mixed) (h := ?_)
   | refine sF [] false
   | fail)
  | ((with_reducible refine gO ?_); first
   | refine oNil (h := ?_)
   | ((with_reducible refine gC ?_); first
    | refine oC false (hh := fun t ht => steelyardref06_Make.holds _ _ _ t ht) (h := fun t => ?_)
    | refine oC true (hh := fun t ht => steelyardref02_Of.holds _ _ _ t ht) (h := fun t => ?_)
    | refine oC false (hh := fun t ht => steelyardref06_Trim.holds _ _ _ t ht) (h := fun t => ?_)
    | fail)
   | refine oV (h := ?_)
   | refine oS (h := ?_)
   | refine oN (h := ?_)
   | fail)
  | fail

theorem steelyardref06_Cmp.holds (k : Nat) (a0_0 : Bool) (l0_1 : List Int) (a1_0 : Bool) (l1_1 : List Int) (r : Int) (h : steelyardref06_Cmp.f k a0_0 l0_1 a1_0 l1_1 = some r) : Holds Tryz.prog (G0 0) 156 [] [.agg [.bool a0_0, .sl 1 (.int .u32 0) (l0_1.map (AV.int .u32))], .agg [.bool a1_0, .sl 1 (.int .u32 0) (l1_1.map (AV.int .u32))]] (.int .i64 r) [] := by
 refine holds_of_sim (fun (r : Int) => ⟨.int .i64 r, [], fun _ => True⟩) h Tryz.func156 rfl (by kernel_rfl) 40 rfl (by simp) (by simp) [(0, .agg [.bool a0_0, .sl 1 (.int .u32 0) (l0_1.map (AV.int .u32))]), (1, .agg [.bool a1_0, .sl 1 (.int .u32 0) (l1_1.map (AV.int .u32))])] rfl [] rfl [.tmp 4] rfl ?_
 clear h
 unfold steelyardref06_Cmp.f
 refine sim_mk ?_
 repeat' first
  | ((with_reducible refine gS ?_); first
   | with_reducible refine sim_seq ?_
   | with_reducible refine sim_block ?_
   | with_reducible refine sim_skip ?_
   | with_reducible refine sim_inBlock ?_
   | refine sR (h := ?_)
   | refine sD (hm := by exact mixed) (h := ?_)
   | ((with_reducible refine sGb ?_); first | refine sTe (h := ?_) | refine sFd (h := ?_) | refine sTb (h := ?_) | refine sFb (h := ?_))
   | with_reducible refine sIn (fun hb => ?_) (fun hb => ?_)
   | ((with_reducible refine sGb ?_); refine sIb (fun hb => ?_) (fun hb => ?_))
   | refine sY (h := ?_)
   | refine sN (h := ?_)
   | (refine sJ (fun k => steelyardref06_Cmp.j0 k _ _ _ _ _) rfl (fun k hk => ?_); simp only [steelyardref06_Cmp.j0, reduceIte, Bool.false_eq_true, decide_eq_true_eq])
   | (refine sJ (fun k => steelyardref06_Cmp.j1 k _ _ _ _ _) rfl (fun k hk => ?_); simp only [steelyardref06_Cmp.j1, reduceIte, Bool.false_eq_true, decide_eq_true_eq])
   | refine sF [] false
   | fail)
  | ((with_reducible refine gO ?_); first
   | ((with_reducible refine oGb ?_); first | refine oTe (h := ?_) | refine oFd (h := ?_) | refine oTb (h := ?_) | refine oFb (h := ?_))
   | ((with_reducible refine oGb ?_); refine oIb (fun hb => ?_) (fun hb => ?_))
   | refine oNil (h := ?_)
   | ((with_reducible refine gC ?_); first
    | refine oC false (hh := fun t ht => steelyardref06_Trim.holds _ _ _ t ht) (h := fun t => ?_)
    | refine oC true (hh := fun t ht => steelyardref01_Cmp.holds _ _ _ t ht) (h := fun t => ?_)
    | fail)
   | refine oV (h := ?_)
   | refine oVg (h := ?_)
   | refine oKg (h := ?_)
   | refine oS (h := ?_)
   | refine oN (h := ?_)
   | (refine oJ (fun k => steelyardref06_Cmp.j1 k _ _ _ _ _) rfl (fun k hk => ?_); simp only [steelyardref06_Cmp.j1, reduceIte, Bool.false_eq_true, decide_eq_true_eq])
   | fail)
  | fail

end Go.Proofs.YtpchdjdochkjpaaGreatDoor.P
