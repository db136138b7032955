/- Contracts: each Go function of a package comes to its plain function. -/
import Derived.Test.YtpchdjdochkjpaaGreatDoorMc
import Derived.Test.YtpchdjdochkjpaaGreatDoorMx
import Derived.Test.YtpchdjdochkjpaaGreatDoorHr
set_option linter.unusedVariables false
set_option linter.unusedSimpArgs false
set_option maxRecDepth 100000
set_option maxHeartbeats 8000000
namespace Go.Proofs.YtpchdjdochkjpaaGreatDoor.P
open Go Go.RowKit Go.Proofs.YtpchdjdochkjpaaGreatDoor.Am Go.Proofs.YtpchdjdochkjpaaGreatDoorW.PrintWords Go.Proofs.YtpchdjdochkjpaaGreatDoorW.PrintMore
attribute [local irreducible] cpy rd bt strOfNums ByteArray.extract
theorem steelyardref07_Whole.holds (k : Nat) (a0 : Int) (r : Bool × List Int × List Int) (h : steelyardref07_Whole.f k a0 = some r) : Holds Tryz.prog (G0 0) 47 [] [.int .i64 a0] (.agg [.bool r.1, .sl 1 (.int .u32 0) (r.2.1.map (AV.int .u32)), .sl 1 (.int .u32 0) (r.2.2.map (AV.int .u32))]) [] := by
 refine holds_of_sim (fun (r : Bool × List Int × List Int) => ⟨.agg [.bool r.1, .sl 1 (.int .u32 0) (r.2.1.map (AV.int .u32)), .sl 1 (.int .u32 0) (r.2.2.map (AV.int .u32))], [], fun _ => True⟩) h Tryz.func47 rfl (by kernel_rfl) 7 rfl (by simp) (by simp) [(0, .int .i64 a0)] rfl [] rfl [.cell 2 33] rfl ?_
 clear h
 unfold steelyardref07_Whole.f
 refine sim_mk ?_
 repeat' first
  | ((with_reducible refine gS ?_); first
   | with_reducible refine sim_seq ?_
   | refine sR (h := ?_)
   | refine sF [] false
   | fail)
  | ((with_reducible refine gO ?_); first
   | refine oNil (h := ?_)
   | ((with_reducible refine gC ?_); first
    | refine oC false (hh := fun t ht => steelyardref06_Of.holds _ _ t ht) (h := fun t => ?_)
    | fail)
   | refine oV (h := ?_)
   | refine oS (h := ?_)
   | refine oN (h := ?_)
   | fail)
  | fail

theorem steelyardref07_trimmed.holds (l0 : List Int) (r : Bool) (h : steelyardref07_trimmed.f l0 = some r) : Holds Tryz.prog (G0 0) 90 [] [.sl 1 (.int .u32 0) (l0.map (AV.int .u32))] (.bool r) [] := by
 refine holds_of_sim (fun (r : Bool) => ⟨.bool r, [], fun _ => True⟩) h Tryz.func90 rfl (by kernel_rfl) 15 rfl (by simp) (by simp) [(0, .sl 1 (.int .u32 0) (l0.map (AV.int .u32)))] rfl [] rfl [.tmp 2] rfl ?_
 clear h
 unfold steelyardref07_trimmed.f
 refine sim_mk ?_
 repeat' first
  | ((with_reducible refine gS ?_); first
   | with_reducible refine sim_seq ?_
   | refine sR (h := ?_)
   | refine sF [] false
   | fail)
  | ((with_reducible refine gO ?_); first
   | with_reducible exact simB_none
   | ((with_reducible refine oGi ?_); first | refine oT (h := ?_) | refine oF' (h := ?_) | refine oI (fun hb hc => ?_) (fun hb hc => ?_))
   | refine oNil (h := ?_)
   | refine oV (h := ?_)
   | refine oVg (h := ?_)
   | refine oKg (h := ?_)
   | fail)
  | fail

theorem steelyardref07_Good.holds (k : Nat) (a0_0 : Bool) (l0_1 : List Int) (l0_2 : List Int) (r : Bool) (h : steelyardref07_Good.f k a0_0 l0_1 l0_2 = some r) : Holds Tryz.prog (G0 0) 56 [] [.agg [.bool a0_0, .sl 1 (.int .u32 0) (l0_1.map (AV.int .u32)), .sl 1 (.int .u32 0) (l0_2.map (AV.int .u32))]] (.bool r) [] := by
 refine holds_of_sim (fun (r : Bool) => ⟨.bool r, [], fun _ => True⟩) h Tryz.func56 rfl (by kernel_rfl) 61 rfl (by simp) (by simp) [(0, .agg [.bool a0_0, .sl 1 (.int .u32 0) (l0_1.map (AV.int .u32)), .sl 1 (.int .u32 0) (l0_2.map (AV.int .u32))])] rfl [] rfl [.tmp 2] rfl ?_
 clear h
 unfold steelyardref07_Good.f
 refine sim_mk ?_
 repeat' first
  | ((with_reducible refine gS ?_); first
   | with_reducible refine sim_seq ?_
   | with_reducible refine sim_skip ?_
   | refine sR (h := ?_)
   | refine sY (h := ?_)
   | refine sN (h := ?_)
   | refine sF [] false
   | fail)
  | ((with_reducible refine gO ?_); first
   | with_reducible exact simB_none
   | ((with_reducible refine oGb ?_); refine oIb (fun hb => ?_) (fun hb => ?_))
   | ((with_reducible refine oGi ?_); first | refine oT (h := ?_) | refine oF' (h := ?_) | refine oI (fun hb hc => ?_) (fun hb hc => ?_))
   | refine oNil (h := ?_)
   | ((with_reducible refine gC ?_); first
    | refine oC true (hh := fun t ht => steelyardref07_trimmed.holds _ t ht) (h := fun t => ?_)
    | refine oCg true (hh := fun t ht => steelyardref07_trimmed.holds _ t ht) (h := fun t => ?_)
    | refine oC false (hh := fun t ht => steelyardref03_Gcd.holds _ _ _ t ht) (h := fun t => ?_)
    | fail)
   | refine oV (h := ?_)
   | refine oVg (h := ?_)
   | refine oKg (h := ?_)
   | refine oKu (h := ?_)
   | refine oN (h := ?_)
   | fail)
  | fail

theorem steelyardref07_Limit.holds (a0_0 : Bool) (l0_1 : List Int) (l0_2 : List Int) (r : Bool × List Int × List Int × Int) (h : steelyardref07_Limit.f a0_0 l0_1 l0_2 = some r) : Holds Tryz.prog (G0 0) 69 [] [.agg [.bool a0_0, .sl 1 (.int .u32 0) (l0_1.map (AV.int .u32)), .sl 1 (.int .u32 0) (l0_2.map (AV.int .u32))]] (.agg [.bool r.1, .sl 1 (.int .u32 0) (r.2.1.map (AV.int .u32)), .sl 1 (.int .u32 0) (r.2.2.1.map (AV.int .u32)), .int .i64 r.2.2.2]) [] := by
 refine holds_of_sim (fun (r : Bool × List Int × List Int × Int) => ⟨.agg [.bool r.1, .sl 1 (.int .u32 0) (r.2.1.map (AV.int .u32)), .sl 1 (.int .u32 0) (r.2.2.1.map (AV.int .u32)), .int .i64 r.2.2.2], [], fun _ => True⟩) h Tryz.func69 rfl (by kernel_rfl) 17 rfl (by simp) (by simp) [(0, .agg [.bool a0_0, .sl 1 (.int .u32 0) (l0_1.map (AV.int .u32)), .sl 1 (.int .u32 0) (l0_2.map (AV.int .u32))])] rfl [] rfl [.cell 2 98] rfl ?_
 clear h
 unfold steelyardref07_Limit.f
 refine sim_mk ?_
 repeat' first
  | ((with_reducible refine gS ?_); first
   | with_reducible refine sim_seq ?_
   | with_reducible refine sim_skip ?_
   | refine sR (h := ?_)
   | refine sY (h := ?_)
   | refine sN (h := ?_)
   | refine sF [] false
   | fail)
  | ((with_reducible refine gO ?_); first
   | ((with_reducible refine oGi ?_); first | refine oT (h := ?_) | refine oF' (h := ?_) | refine oI (fun hb hc => ?_) (fun hb hc => ?_))
   | refine oNil (h := ?_)
   | refine oV (h := ?_)
   | refine oVg (h := ?_)
   | refine oKg (h := ?_)
   | refine oS (h := ?_)
   | refine oN (h := ?_)
   | fail)
  | fail

theorem steelyardref07_Wide.holds (k : Nat) (a0_0 : Bool) (l0_1 : List Int) (l1 : List Int) (r : Bool × List Int × List Int) (h : steelyardref07_Wide.f k a0_0 l0_1 l1 = some r) : Holds Tryz.prog (G0 0) 100 [] [.agg [.bool a0_0, .sl 1 (.int .u32 0) (l0_1.map (AV.int .u32))], .sl 1 (.int .u32 0) (l1.map (AV.int .u32))] (.agg [.bool r.1, .sl 1 (.int .u32 0) (r.2.1.map (AV.int .u32)), .sl 1 (.int .u32 0) (r.2.2.map (AV.int .u32))]) [] := by
 refine holds_of_sim (fun (r : Bool × List Int × List Int) => ⟨.agg [.bool r.1, .sl 1 (.int .u32 0) (r.2.1.map (AV.int .u32)), .sl 1 (.int .u32 0) (r.2.2.map (AV.int .u32))], [], fun _ => True⟩) h Tryz.func100 rfl (by kernel_rfl) 26 rfl (by simp) (by simp) [(0, .agg [.bool a0_0, .sl 1 (.int .u32 0) (l0_1.map (AV.int .u32))]), (1, .sl 1 (.int .u32 0) (l1.map (AV.int .u32)))] rfl [] rfl [.cell 4 33] rfl ?_
 clear h
 unfold steelyardref07_Wide.f
 refine sim_mk ?_
 repeat' first
  | ((with_reducible refine gS ?_); first
   | with_reducible refine sim_seq ?_
   | refine sR (h := ?_)
   | refine sD (hm := by exact mixed) (h := ?_)
   | refine sF [] false
   | fail)
  | ((with_reducible refine gO ?_); first
   | refine oNil (h := ?_)
   | ((with_reducible refine gC ?_); first
    | refine oC false (hh := fun t ht => steelyardref06_Make.holds _ _ _ t ht) (h := fun t => ?_)
    | refine oC false (hh := fun t ht => steelyardref03_Gcd.holds _ _ _ t ht) (h := fun t => ?_)
    | refine oC false (hh := fun t ht => steelyardref03_Rem.holds _ _ _ t ht) (h := fun t => ?_)
    | refine oC false (hh := fun t ht => steelyardref06_Trim.holds _ _ _ t ht) (h := fun t => ?_)
    | fail)
   | refine oV (h := ?_)
   | refine oS (h := ?_)
   | refine oN (h := ?_)
   | fail)
  | fail

theorem steelyardref07_Times.holds (k : Nat) (a0_0 : Bool) (l0_1 : List Int) (l0_2 : List Int) (a1_0 : Bool) (l1_1 : List Int) (l1_2 : List Int) (r : Bool × List Int × List Int) (h : steelyardref07_Times.f k a0_0 l0_1 l0_2 a1_0 l1_1 l1_2 = some r) : Holds Tryz.prog (G0 0) 70 [] [.agg [.bool a0_0, .sl 1 (.int .u32 0) (l0_1.map (AV.int .u32)), .sl 1 (.int .u32 0) (l0_2.map (AV.int .u32))], .agg [.bool a1_0, .sl 1 (.int .u32 0) (l1_1.map (AV.int .u32)), .sl 1 (.int .u32 0) (l1_2.map (AV.int .u32))]] (.agg [.bool r.1, .sl 1 (.int .u32 0) (r.2.1.map (AV.int .u32)), .sl 1 (.int .u32 0) (r.2.2.map (AV.int .u32))]) [] := by
 refine holds_of_sim (fun (r : Bool × List Int × List Int) => ⟨.agg [.bool r.1, .sl 1 (.int .u32 0) (r.2.1.map (AV.int .u32)), .sl 1 (.int .u32 0) (r.2.2.map (AV.int .u32))], [], fun _ => True⟩) h Tryz.func70 rfl (by kernel_rfl) 16 rfl (by simp) (by simp) [(0, .agg [.bool a0_0, .sl 1 (.int .u32 0) (l0_1.map (AV.int .u32)), .sl 1 (.int .u32 0) (l0_2.map (AV.int .u32))]), (1, .agg [.bool a1_0, .sl 1 (.int .u32 0) (l1_1.map (AV.int .u32)), .sl 1 (.int .u32 0) (l1_2.map (AV.int .u32))])] rfl [] rfl [.cell 4 33] rfl ?_
 clear h
 unfold steelyardref07_Times.f
 refine sim_mk ?_
 repeat' first
  | ((with_reducible refine gS ?_); first
   | with_reducible refine sim_seq ?_
   | refine sR (h := ?_)
   | refine sD (hm := by exact mixed) (h := ?_)
   | refine sF [] false
   | fail)
  | ((with_reducible refine gO ?_); first
   | refine oNil (h := ?_)
   | ((with_reducible refine gC ?_); first
    | refine oC false (hh := fun t ht => steelyardref07_Wide.holds _ _ _ _ t ht) (h := fun t => ?_)
    | refine oC false (hh := fun t ht => steelyardref06_Mul.holds _ _ _ _ _ t ht) (h := fun t => ?_)
    | refine oC true (hh := fun t ht => steelyardref02_Of.holds _ _ _ t ht) (h := fun t => ?_)
    | fail)
   | refine oV (h := ?_)
   | refine oS (h := ?_)
   | refine oN (h := ?_)
   | fail)
  | fail

theorem steelyardref07_Div.holds (k : Nat) (a0_0 : Bool) (l0_1 : List Int) (l0_2 : List Int) (a1_0 : Bool) (l1_1 : List Int) (l1_2 : List Int) (r : Bool × List Int × List Int × Int) (h : steelyardref07_Div.f k a0_0 l0_1 l0_2 a1_0 l1_1 l1_2 = some r) : Holds Tryz.prog (G0 0) 53 [] [.agg [.bool a0_0, .sl 1 (.int .u32 0) (l0_1.map (AV.int .u32)), .sl 1 (.int .u32 0) (l0_2.map (AV.int .u32))], .agg [.bool a1_0, .sl 1 (.int .u32 0) (l1_1.map (AV.int .u32)), .sl 1 (.int .u32 0) (l1_2.map (AV.int .u32))]] (.agg [.bool r.1, .sl 1 (.int .u32 0) (r.2.1.map (AV.int .u32)), .sl 1 (.int .u32 0) (r.2.2.1.map (AV.int .u32)), .int .i64 r.2.2.2]) [] := by
 refine holds_of_sim (fun (r : Bool × List Int × List Int × Int) => ⟨.agg [.bool r.1, .sl 1 (.int .u32 0) (r.2.1.map (AV.int .u32)), .sl 1 (.int .u32 0) (r.2.2.1.map (AV.int .u32)), .int .i64 r.2.2.2], [], fun _ => True⟩) h Tryz.func53 rfl (by kernel_rfl) 33 rfl (by simp) (by simp) [(0, .agg [.bool a0_0, .sl 1 (.int .u32 0) (l0_1.map (AV.int .u32)), .sl 1 (.int .u32 0) (l0_2.map (AV.int .u32))]), (1, .agg [.bool a1_0, .sl 1 (.int .u32 0) (l1_1.map (AV.int .u32)), .sl 1 (.int .u32 0) (l1_2.map (AV.int .u32))])] rfl [] rfl [.cell 4 98] rfl ?_
 clear h
 unfold steelyardref07_Div.f
 refine sim_mk ?_
 repeat' first
  | ((with_reducible refine gS ?_); first
   | with_reducible refine sim_seq ?_
   | with_reducible refine sim_skip ?_
   | refine sR (h := ?_)
   | refine sD (hm := by exact mixed) (h := ?_)
   | with_reducible refine sIn (fun hb => ?_) (fun hb => ?_)
   | ((with_reducible refine sGi ?_); first | refine sT (h := ?_) | refine sF' (h := ?_) | refine sI (fun hb hc => ?_) (fun hb hc => ?_))
   | refine sY (h := ?_)
   | refine sN (h := ?_)
   | (refine sJ (fun k => steelyardref07_Div.j0 k _ _ _ _ _ _ _) rfl (fun k hk => ?_); simp only [steelyardref07_Div.j0, reduceIte, Bool.false_eq_true, decide_eq_true_eq])
   | refine sF [] false
   | fail)
  | ((with_reducible refine gO ?_); first
   | ((with_reducible refine oGb ?_); refine oIb (fun hb => ?_) (fun hb => ?_))
   | refine oNil (h := ?_)
   | ((with_reducible refine gC ?_); first
    | refine oC true (hh := fun t ht => steelyardref07_Good.holds _ _ _ _ t ht) (h := fun t => ?_)
    | refine oCg true (hh := fun t ht => steelyardref07_Good.holds _ _ _ _ t ht) (h := fun t => ?_)
    | refine oC false (hh := fun t ht => steelyardref07_Limit.holds _ _ _ t ht) (h := fun t => ?_)
    | refine oC false (hh := fun t ht => steelyardref07_Times.holds _ _ _ _ _ _ _ t ht) (h := fun t => ?_)
    | refine oC false (hh := fun t ht => steelyardref06_Make.holds _ _ _ t ht) (h := fun t => ?_)
    | fail)
   | refine oV (h := ?_)
   | refine oVg (h := ?_)
   | refine oKg (h := ?_)
   | refine oS (h := ?_)
   | refine oN (h := ?_)
   | fail)
  | fail

theorem steelyardref07_pos.holds (k : Nat) (l0 : List Int) (r : Bool × List Int) (h : steelyardref07_pos.f k l0 = some r) : Holds Tryz.prog (G0 0) 157 [] [.sl 1 (.int .u32 0) (l0.map (AV.int .u32))] (.agg [.bool r.1, .sl 1 (.int .u32 0) (r.2.map (AV.int .u32))]) [] := by
 refine holds_of_sim (fun (r : Bool × List Int) => ⟨.agg [.bool r.1, .sl 1 (.int .u32 0) (r.2.map (AV.int .u32))], [], fun _ => True⟩) h Tryz.func157 rfl (by kernel_rfl) 5 rfl (by simp) (by simp) [(0, .sl 1 (.int .u32 0) (l0.map (AV.int .u32)))] rfl [] rfl [.cell 2 31] rfl ?_
 clear h
 unfold steelyardref07_pos.f
 refine sim_mk ?_
 repeat' first
  | ((with_reducible refine gS ?_); first
   | with_reducible refine sim_seq ?_
   | refine sR (h := ?_)
   | refine sF [] false
   | fail)
  | ((with_reducible refine gO ?_); first
   | refine oNil (h := ?_)
   | ((with_reducible refine gC ?_); first
    | refine oC false (hh := fun t ht => steelyardref06_Make.holds _ _ _ t ht) (h := fun t => ?_)
    | fail)
   | refine oV (h := ?_)
   | refine oS (h := ?_)
   | refine oN (h := ?_)
   | fail)
  | fail

theorem steelyardref07_Less.holds (k : Nat) (a0_0 : Bool) (l0_1 : List Int) (l0_2 : List Int) (a1_0 : Bool) (l1_1 : List Int) (l1_2 : List Int) (r : Int) (h : steelyardref07_Less.f k a0_0 l0_1 l0_2 a1_0 l1_1 l1_2 = some r) : Holds Tryz.prog (G0 0) 120 [] [.agg [.bool a0_0, .sl 1 (.int .u32 0) (l0_1.map (AV.int .u32)), .sl 1 (.int .u32 0) (l0_2.map (AV.int .u32))], .agg [.bool a1_0, .sl 1 (.int .u32 0) (l1_1.map (AV.int .u32)), .sl 1 (.int .u32 0) (l1_2.map (AV.int .u32))]] (.int .i64 r) [] := by
 refine holds_of_sim (fun (r : Int) => ⟨.int .i64 r, [], fun _ => True⟩) h Tryz.func120 rfl (by kernel_rfl) 18 rfl (by simp) (by simp) [(0, .agg [.bool a0_0, .sl 1 (.int .u32 0) (l0_1.map (AV.int .u32)), .sl 1 (.int .u32 0) (l0_2.map (AV.int .u32))]), (1, .agg [.bool a1_0, .sl 1 (.int .u32 0) (l1_1.map (AV.int .u32)), .sl 1 (.int .u32 0) (l1_2.map (AV.int .u32))])] rfl [] rfl [.tmp 4] rfl ?_
 clear h
 unfold steelyardref07_Less.f
 refine sim_mk ?_
 repeat' first
  | ((with_reducible refine gS ?_); first
   | with_reducible refine sim_seq ?_
   | refine sR (h := ?_)
   | refine sD (hm := by exact mixed) (h := ?_)
   | refine sF [] false
   | fail)
  | ((with_reducible refine gO ?_); first
   | refine oNil (h := ?_)
   | ((with_reducible refine gC ?_); first
    | refine oC false (hh := fun t ht => steelyardref06_Mul.holds _ _ _ _ _ t ht) (h := fun t => ?_)
    | refine oC true (hh := fun t ht => steelyardref06_Cmp.holds _ _ _ _ _ t ht) (h := fun t => ?_)
    | refine oC false (hh := fun t ht => steelyardref07_pos.holds _ _ t ht) (h := fun t => ?_)
    | fail)
   | refine oV (h := ?_)
   | refine oN (h := ?_)
   | fail)
  | fail

theorem steelyardref07_Cmp.holds (k : Nat) (a0_0 : Bool) (l0_1 : List Int) (l0_2 : List Int) (a1_0 : Bool) (l1_1 : List Int) (l1_2 : List Int) (r : Int) (h : steelyardref07_Cmp.f k a0_0 l0_1 l0_2 a1_0 l1_1 l1_2 = some r) : Holds Tryz.prog (G0 0) 92 [] [.agg [.bool a0_0, .sl 1 (.int .u32 0) (l0_1.map (AV.int .u32)), .sl 1 (.int .u32 0) (l0_2.map (AV.int .u32))], .agg [.bool a1_0, .sl 1 (.int .u32 0) (l1_1.map (AV.int .u32)), .sl 1 (.int .u32 0) (l1_2.map (AV.int .u32))]] (.int .i64 r) [] := by
 refine holds_of_sim (fun (r : Int) => ⟨.int .i64 r, [], fun _ => True⟩) h Tryz.func92 rfl (by kernel_rfl) 16 rfl (by simp) (by simp) [(0, .agg [.bool a0_0, .sl 1 (.int .u32 0) (l0_1.map (AV.int .u32)), .sl 1 (.int .u32 0) (l0_2.map (AV.int .u32))]), (1, .agg [.bool a1_0, .sl 1 (.int .u32 0) (l1_1.map (AV.int .u32)), .sl 1 (.int .u32 0) (l1_2.map (AV.int .u32))])] rfl [] rfl [.tmp 4] rfl ?_
 clear h
 unfold steelyardref07_Cmp.f
 refine sim_mk ?_
 repeat' first
  | ((with_reducible refine gS ?_); first
   | with_reducible refine sim_seq ?_
   | with_reducible refine sim_skip ?_
   | refine sR (h := ?_)
   | refine sY (h := ?_)
   | refine sN (h := ?_)
   | refine sF [] false
   | fail)
  | ((with_reducible refine gO ?_); first
   | ((with_reducible refine oGb ?_); refine oIb (fun hb => ?_) (fun hb => ?_))
   | refine oNil (h := ?_)
   | ((with_reducible refine gC ?_); first
    | refine oC true (hh := fun t ht => steelyardref07_Good.holds _ _ _ _ t ht) (h := fun t => ?_)
    | refine oCg true (hh := fun t ht => steelyardref07_Good.holds _ _ _ _ t ht) (h := fun t => ?_)
    | refine oC true (hh := fun t ht => steelyardref07_Less.holds _ _ _ _ _ _ _ t ht) (h := fun t => ?_)
    | fail)
   | refine oV (h := ?_)
   | refine oVg (h := ?_)
   | refine oKg (h := ?_)
   | refine oN (h := ?_)
   | fail)
  | fail

theorem steelyardref07_Sign.holds (k : Nat) (a0_0 : Bool) (l0_1 : List Int) (l0_2 : List Int) (r : Int) (h : steelyardref07_Sign.f k a0_0 l0_1 l0_2 = some r) : Holds Tryz.prog (G0 0) 57 [] [.agg [.bool a0_0, .sl 1 (.int .u32 0) (l0_1.map (AV.int .u32)), .sl 1 (.int .u32 0) (l0_2.map (AV.int .u32))]] (.int .i64 r) [] := by
 refine holds_of_sim (fun (r : Int) => ⟨.int .i64 r, [], fun _ => True⟩) h Tryz.func57 rfl (by kernel_rfl) 6 rfl (by simp) (by simp) [(0, .agg [.bool a0_0, .sl 1 (.int .u32 0) (l0_1.map (AV.int .u32)), .sl 1 (.int .u32 0) (l0_2.map (AV.int .u32))])] rfl [] rfl [.tmp 2] rfl ?_
 clear h
 unfold steelyardref07_Sign.f
 refine sim_mk ?_
 repeat' first
  | ((with_reducible refine gS ?_); first
   | with_reducible refine sim_seq ?_
   | refine sR (h := ?_)
   | refine sD (hm := by exact mixed) (h := ?_)
   | refine sF [] false
   | fail)
  | ((with_reducible refine gO ?_); first
   | refine oNil (h := ?_)
   | ((with_reducible refine gC ?_); first
    | refine oC false (hh := fun t ht => steelyardref07_Whole.holds _ _ t ht) (h := fun t => ?_)
    | refine oC true (hh := fun t ht => steelyardref07_Cmp.holds _ _ _ _ _ _ _ t ht) (h := fun t => ?_)
    | fail)
   | refine oV (h := ?_)
   | refine oN (h := ?_)
   | fail)
  | fail

end Go.Proofs.YtpchdjdochkjpaaGreatDoor.P
