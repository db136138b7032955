/- Contracts: each Go function of a package comes to its plain function. · Contracts: each Go function of a package comes to its plain function. -/
import Derived.Test.YtpchdjdochkjpaaGreatDoorMc
import Derived.Test.YtpchdjdochkjpaaGreatDoorMx
import Derived.Test.YtpchdjdochkjpaaGreatDoorHsteelyardref07
set_option linter.unusedVariables false
set_option linter.unusedSimpArgs false
set_option maxRecDepth 100000
set_option maxHeartbeats 8000000
namespace Go.Proofs.YtpchdjdochkjpaaGreatDoor.P
open Go Go.RowKit Go.Proofs.YtpchdjdochkjpaaGreatDoor.Am Go.Proofs.YtpchdjdochkjpaaGreatDoorW.PrintWords Go.Proofs.YtpchdjdochkjpaaGreatDoorW.PrintMore
attribute [local irreducible] cpy rd bt strOfNums ByteArray.extract
theorem steelyardkeep_Nat.holds (k : Nat) (l0 : List Int) (l1 : List Int) (r : Bool) (h : steelyardkeep_Nat.f k l0 l1 = some r) : Holds Tryz.prog (G0 0) 66 [] [.sl 1 (.int .u32 0) (l0.map (AV.int .u32)), .sl 1 (.int .u32 0) (l1.map (AV.int .u32))] (.bool r) [] := by
 refine holds_of_sim (fun (r : Bool) => ⟨.bool r, [], fun _ => True⟩) h Tryz.func66 rfl (by kernel_rfl) 26 rfl (by simp) (by simp) [(0, .sl 1 (.int .u32 0) (l0.map (AV.int .u32))), (1, .sl 1 (.int .u32 0) (l1.map (AV.int .u32)))] rfl [] rfl [.tmp 4] rfl ?_
 clear h
 unfold steelyardkeep_Nat.f
 refine sim_mk ?_
 repeat' first
  | ((with_reducible refine gS ?_); first
   | with_reducible refine sim_seq ?_
   | with_reducible refine sim_block ?_
   | with_reducible refine sim_skip ?_
   | with_reducible refine sim_inBlock ?_
   | refine sR (h := ?_)
   | refine sX (h := ?_)
   | refine sD (hm := by exact mixed) (h := ?_)
   | refine sY (h := ?_)
   | refine sN (h := ?_)
   | refine IHl0.out _ (_, _, _) _ (by omega) ?_
   | (refine sim_loop (fun k (x : List Int × List Int × Int) => match x with | (x0, x1, x5) => steelyardkeep_Nat.l0 k x0 x1 x5) (fun x => mkS [(0, .sl 1 (.int .u32 0) (x.1.map (AV.int .u32))), (1, .sl 1 (.int .u32 0) (x.2.1.map (AV.int .u32))), (5, .int .i64 x.2.2)] ([] ++ []) []) _ (fun ⟨_, _, _⟩ => rfl) (fun k hkl0 IH x => ?_) ((_, _, _)) ?_; obtain ⟨x0, x1, x5⟩ := x; simp only [steelyardkeep_Nat.l0]; have IHl0 := Hid.mk IH; clear IH; refine sim_mk ?_)
   | refine sF [] false
   | fail)
  | ((with_reducible refine gO ?_); first
   | with_reducible exact simB_none
   | ((with_reducible refine oGi ?_); first | refine oT (h := ?_) | refine oF' (h := ?_) | refine oI (fun hb hc => ?_) (fun hb hc => ?_))
   | refine oNil (h := ?_)
   | refine oV (h := ?_)
   | fail)
  | ((with_reducible refine gL ?_); first
   | refine lC [] [] []
   | fail)
  | fail

theorem steelyardkeep_Int.holds (k : Nat) (a0_0 : Bool) (l0_1 : List Int) (a1_0 : Bool) (l1_1 : List Int) (r : Bool) (h : steelyardkeep_Int.f k a0_0 l0_1 a1_0 l1_1 = some r) : Holds Tryz.prog (G0 0) 65 [] [.agg [.bool a0_0, .sl 1 (.int .u32 0) (l0_1.map (AV.int .u32))], .agg [.bool a1_0, .sl 1 (.int .u32 0) (l1_1.map (AV.int .u32))]] (.bool r) [] := by
 refine holds_of_sim (fun (r : Bool) => ⟨.bool r, [], fun _ => True⟩) h Tryz.func65 rfl (by kernel_rfl) 17 rfl (by simp) (by simp) [(0, .agg [.bool a0_0, .sl 1 (.int .u32 0) (l0_1.map (AV.int .u32))]), (1, .agg [.bool a1_0, .sl 1 (.int .u32 0) (l1_1.map (AV.int .u32))])] rfl [] rfl [.tmp 4] rfl ?_
 clear h
 unfold steelyardkeep_Int.f
 refine sim_mk ?_
 repeat' first
  | ((with_reducible refine gS ?_); first
   | with_reducible refine sim_seq ?_
   | refine sR (h := ?_)
   | refine sF [] false
   | fail)
  | ((with_reducible refine gO ?_); first
   | ((with_reducible refine oGb ?_); refine oIb (fun hb => ?_) (fun hb => ?_))
   | refine oNil (h := ?_)
   | ((with_reducible refine gC ?_); first
    | refine oCg true (hh := fun t ht => steelyardkeep_Nat.holds _ _ _ t ht) (h := fun t => ?_)
    | fail)
   | refine oV (h := ?_)
   | refine oVg (h := ?_)
   | refine oKg (h := ?_)
   | refine oN (h := ?_)
   | fail)
  | fail

theorem steelyardkeep_Rat.holds (k : Nat) (a0_0 : Bool) (l0_1 : List Int) (l0_2 : List Int) (a1_0 : Bool) (l1_1 : List Int) (l1_2 : List Int) (r : Bool) (h : steelyardkeep_Rat.f k a0_0 l0_1 l0_2 a1_0 l1_1 l1_2 = some r) : Holds Tryz.prog (G0 0) 27 [] [.agg [.bool a0_0, .sl 1 (.int .u32 0) (l0_1.map (AV.int .u32)), .sl 1 (.int .u32 0) (l0_2.map (AV.int .u32))], .agg [.bool a1_0, .sl 1 (.int .u32 0) (l1_1.map (AV.int .u32)), .sl 1 (.int .u32 0) (l1_2.map (AV.int .u32))]] (.bool r) [] := by
 refine holds_of_sim (fun (r : Bool) => ⟨.bool r, [], fun _ => True⟩) h Tryz.func27 rfl (by kernel_rfl) 17 rfl (by simp) (by simp) [(0, .agg [.bool a0_0, .sl 1 (.int .u32 0) (l0_1.map (AV.int .u32)), .sl 1 (.int .u32 0) (l0_2.map (AV.int .u32))]), (1, .agg [.bool a1_0, .sl 1 (.int .u32 0) (l1_1.map (AV.int .u32)), .sl 1 (.int .u32 0) (l1_2.map (AV.int .u32))])] rfl [] rfl [.tmp 4] rfl ?_
 clear h
 unfold steelyardkeep_Rat.f
 refine sim_mk ?_
 repeat' first
  | ((with_reducible refine gS ?_); first
   | with_reducible refine sim_seq ?_
   | refine sR (h := ?_)
   | refine sF [] false
   | fail)
  | ((with_reducible refine gO ?_); first
   | ((with_reducible refine oGb ?_); refine oIb (fun hb => ?_) (fun hb => ?_))
   | refine oNil (h := ?_)
   | ((with_reducible refine gC ?_); first
    | refine oC true (hh := fun t ht => steelyardkeep_Int.holds _ _ _ _ _ t ht) (h := fun t => ?_)
    | refine oCg true (hh := fun t ht => steelyardkeep_Nat.holds _ _ _ t ht) (h := fun t => ?_)
    | fail)
   | refine oV (h := ?_)
   | refine oVg (h := ?_)
   | refine oKg (h := ?_)
   | refine oN (h := ?_)
   | fail)
  | fail

theorem steelyardkeep_Unit.holds (k : Nat) (a b : Un) (r : Bool) (h : steelyardkeep_Unit.f k a b = some r) : Holds Tryz.prog (G0 0) 18 [] [avU a, avU b] (.bool r) [] := by
 refine holds_of_sim (fun (r : Bool) => ⟨.bool r, [], fun _ => True⟩) h Tryz.func18 rfl (by kernel_rfl) 17 rfl (by simp) (by simp) [(0, avU a), (1, avU b)] rfl [] rfl [.tmp 4] rfl ?_
 clear h
 unfold steelyardkeep_Unit.f
 refine sim_mk ?_
 repeat' first
  | ((with_reducible refine gS ?_); first
   | with_reducible refine sim_seq ?_
   | refine sR (h := ?_)
   | refine sF [] false
   | fail)
  | ((with_reducible refine gO ?_); first
   | ((with_reducible refine oGb ?_); refine oIb (fun hb => ?_) (fun hb => ?_))
   | refine oNil (h := ?_)
   | ((with_reducible refine gC ?_); first
    | refine oCg true (hh := fun t ht => steelyardkeep_Rat.holds _ _ _ _ _ _ _ t ht) (h := fun t => ?_)
    | fail)
   | refine oV (h := ?_)
   | refine oVg (h := ?_)
   | refine oKg (h := ?_)
   | refine oN (h := ?_)
   | fail)
  | fail

end Go.Proofs.YtpchdjdochkjpaaGreatDoor.P
set_option linter.unusedVariables false
set_option linter.unusedSimpArgs false
set_option maxRecDepth 100000
set_option maxHeartbeats 8000000
namespace Go.Proofs.YtpchdjdochkjpaaGreatDoor.P
open Go Go.RowKit Go.Proofs.YtpchdjdochkjpaaGreatDoor.Am Go.Proofs.YtpchdjdochkjpaaGreatDoorW.PrintWords Go.Proofs.YtpchdjdochkjpaaGreatDoorW.PrintMore
attribute [local irreducible] cpy rd bt strOfNums ByteArray.extract
theorem steelyardlaw07_By.holds (k : Nat) (a0 : Int) (a1 : Int) (r : Bool × List Int × List Int) (h : steelyardlaw07_By.f k a0 a1 = some r) : Holds Tryz.prog (G0 0) 30 [] [.int .i64 a0, .int .i64 a1] (.agg [.bool r.1, .sl 1 (.int .u32 0) (r.2.1.map (AV.int .u32)), .sl 1 (.int .u32 0) (r.2.2.map (AV.int .u32))]) [] := by
 refine holds_of_sim (fun (r : Bool × List Int × List Int) => ⟨.agg [.bool r.1, .sl 1 (.int .u32 0) (r.2.1.map (AV.int .u32)), .sl 1 (.int .u32 0) (r.2.2.map (AV.int .u32))], [], fun _ => True⟩) h Tryz.func30 rfl (by kernel_rfl) 13 rfl (by simp) (by simp) [(0, .int .i64 a0), (1, .int .i64 a1)] rfl [] rfl [.cell 4 33] rfl ?_
 clear h
 unfold steelyardlaw07_By.f
 refine sim_mk ?_
 repeat' first
  | ((with_reducible refine gS ?_); first
   | with_reducible refine sim_seq ?_
   | refine sR (h := ?_)
   | refine sF [] false
   | fail)
  | ((with_reducible refine gO ?_); first
   | refine oNil (h := ?_)
   | ((with_reducible refine gC ?_); first
    | refine oC false (hh := fun t ht => steelyardref07_Whole.holds _ _ t ht) (h := fun t => ?_)
    | refine oC false (hh := fun t ht => steelyardref07_Div.holds _ _ _ _ _ _ _ t ht) (h := fun t => ?_)
    | fail)
   | refine oV (h := ?_)
   | refine oS (h := ?_)
   | refine oN (h := ?_)
   | fail)
  | fail

theorem steelyardlaw07_Long.holds (a0_0 : Bool) (l0_1 : List Int) (l0_2 : List Int) (r : Bool) (h : steelyardlaw07_Long.f a0_0 l0_1 l0_2 = some r) : Holds Tryz.prog (G0 0) 36 [] [.agg [.bool a0_0, .sl 1 (.int .u32 0) (l0_1.map (AV.int .u32)), .sl 1 (.int .u32 0) (l0_2.map (AV.int .u32))]] (.bool r) [] := by
 refine holds_of_sim (fun (r : Bool) => ⟨.bool r, [], fun _ => True⟩) h Tryz.func36 rfl (by kernel_rfl) 14 rfl (by simp) (by simp) [(0, .agg [.bool a0_0, .sl 1 (.int .u32 0) (l0_1.map (AV.int .u32)), .sl 1 (.int .u32 0) (l0_2.map (AV.int .u32))])] rfl [] rfl [.tmp 2] rfl ?_
 clear h
 unfold steelyardlaw07_Long.f
 refine sim_mk ?_
 repeat' first
  | ((with_reducible refine gS ?_); first
   | with_reducible refine sim_seq ?_
   | refine sR (h := ?_)
   | refine sF [] false
   | fail)
  | ((with_reducible refine gO ?_); first
   | ((with_reducible refine oGi ?_); first | refine oT (h := ?_) | refine oF' (h := ?_) | refine oI (fun hb hc => ?_) (fun hb hc => ?_))
   | refine oNil (h := ?_)
   | refine oV (h := ?_)
   | refine oVg (h := ?_)
   | refine oKg (h := ?_)
   | refine oN (h := ?_)
   | fail)
  | fail

end Go.Proofs.YtpchdjdochkjpaaGreatDoor.P
