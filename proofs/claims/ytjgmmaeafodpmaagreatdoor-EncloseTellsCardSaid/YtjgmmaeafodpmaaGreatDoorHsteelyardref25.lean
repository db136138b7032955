/- Contracts: each Go function of a package comes to its plain function. -/
import Derived.Test.YtjgmmaeafodpmaaGreatDoorMb
import Derived.Test.YtjgmmaeafodpmaaGreatDoorMx
import Derived.Test.YtjgmmaeafodpmaaGreatDoorHsteelyardref10
import Derived.Test.YtjgmmaeafodpmaaGreatDoorHsteelyardref07
import Derived.Test.YtjgmmaeafodpmaaGreatDoorHsteelyardref05
import Derived.Test.YtjgmmaeafodpmaaGreatDoorHsteelyardref02
import Derived.Test.YtjgmmaeafodpmaaGreatDoorHsteelyardref03
import Derived.Test.YtjgmmaeafodpmaaGreatDoorHsteelyardref04
import Derived.Test.YtjgmmaeafodpmaaGreatDoorHsteelyardref01
import Derived.Test.YtjgmmaeafodpmaaGreatDoorHsteelyardref06
set_option linter.unusedVariables false
set_option linter.unusedSimpArgs false
set_option maxRecDepth 100000
set_option maxHeartbeats 8000000
namespace Go.Proofs.YtjgmmaeafodpmaaGreatDoor.P
open Go Go.RowKit Go.Proofs.YtjgmmaeafodpmaaGreatDoor.Am Go.Proofs.YtjgmmaeafodpmaaGreatDoorW.PrintWords Go.Proofs.YtjgmmaeafodpmaaGreatDoorW.PrintMore
attribute [local irreducible] cpy rd bt strOfNums ByteArray.extract
theorem steelyardref25_Root.holds {mx : Int} (k : Nat) (a0_0 : Bool) (l0_1 : List Int) (l0_2 : List Int) (a1 : Int) (r : Bool × List Int × List Int × Bool × List Int × List Int × Int) (h : steelyardref25_Root.f k a0_0 l0_1 l0_2 a1 = some r) : Holds Tryz.prog (G0 mx) 15 [] [.agg [.bool a0_0, .sl 1 (.int .u32 0) (l0_1.map (AV.int .u32)), .sl 1 (.int .u32 0) (l0_2.map (AV.int .u32))], .int .i64 a1] (.agg [.bool r.1, .sl 1 (.int .u32 0) (r.2.1.map (AV.int .u32)), .sl 1 (.int .u32 0) (r.2.2.1.map (AV.int .u32)), .bool r.2.2.2.1, .sl 1 (.int .u32 0) (r.2.2.2.2.1.map (AV.int .u32)), .sl 1 (.int .u32 0) (r.2.2.2.2.2.1.map (AV.int .u32)), .int .i64 r.2.2.2.2.2.2]) [] := by
  refine holds_of_sim (fun (r : Bool × List Int × List Int × Bool × List Int × List Int × Int) => (.agg [.bool r.1, .sl 1 (.int .u32 0) (r.2.1.map (AV.int .u32)), .sl 1 (.int .u32 0) (r.2.2.1.map (AV.int .u32)), .bool r.2.2.2.1, .sl 1 (.int .u32 0) (r.2.2.2.2.1.map (AV.int .u32)), .sl 1 (.int .u32 0) (r.2.2.2.2.2.1.map (AV.int .u32)), .int .i64 r.2.2.2.2.2.2], [])) h Tryz.func15 rfl (by kernel_rfl) 73 rfl (by simp) (by simp) [(0, .agg [.bool a0_0, .sl 1 (.int .u32 0) (l0_1.map (AV.int .u32)), .sl 1 (.int .u32 0) (l0_2.map (AV.int .u32))]), (1, .int .i64 a1)] rfl [] rfl [.cell 4 36] rfl ?_
  clear h
  unfold steelyardref25_Root.f
  refine sim_mk ?_
  repeat' first
   | ((with_reducible refine gS ?_); first
    | with_reducible refine sim_seq ?_
    | with_reducible refine sim_block ?_
    | with_reducible refine sim_skip ?_
    | with_reducible refine sim_inBlock ?_
    | with_reducible exact sim_none
    | refine sR (h := ?_)
    | refine sX (h := ?_)
    | refine sD (hm := by exact mixed) (h := ?_)
    | ((with_reducible refine sGb ?_); first | refine sTe (h := ?_) | refine sFd (h := ?_) | refine sTb (h := ?_) | refine sFb (h := ?_))
    | with_reducible refine sIn (fun hb => ?_) (fun hb => ?_)
    | with_reducible refine sBd (fun hb hc => ?_) (fun hb hc => ?_) (fun hb hc => ?_) (fun hb hc => ?_)
    | ((with_reducible refine sGb ?_); refine sIb (fun hb => ?_) (fun hb => ?_))
    | ((with_reducible refine sGi ?_); first | refine sT (h := ?_) | refine sF' (h := ?_) | refine sI (fun hb hc => ?_) (fun hb hc => ?_))
    | with_reducible refine sim_let ?_
    | refine sY (h := ?_)
    | refine sN (h := ?_)
    | (refine sJ (fun k => steelyardref25_Root.j0 k _ _ _ _) rfl (fun k hk => ?_); simp only [steelyardref25_Root.j0, reduceIte, Bool.false_eq_true, decide_eq_true_eq])
    | (refine sJ (fun k => steelyardref25_Root.j1 k _ _ _) rfl (fun k hk => ?_); simp only [steelyardref25_Root.j1, reduceIte, Bool.false_eq_true, decide_eq_true_eq])
    | refine sF [] false
    | refine sFe [] false
    | fail)
   | ((with_reducible refine gO ?_); first
    | with_reducible exact simO_none
    | ((with_reducible refine oGb ?_); first | refine oTe (h := ?_) | refine oFd (h := ?_) | refine oTb (h := ?_) | refine oFb (h := ?_))
    | with_reducible refine oIn (fun hb => ?_) (fun hb => ?_)
    | with_reducible refine oBd (fun hb hc => ?_) (fun hb hc => ?_) (fun hb hc => ?_) (fun hb hc => ?_)
    | ((with_reducible refine oGb ?_); refine oIb (fun hb => ?_) (fun hb => ?_))
    | ((with_reducible refine oGi ?_); first | refine oT (h := ?_) | refine oF' (h := ?_) | refine oI (fun hb hc => ?_) (fun hb hc => ?_))
    | with_reducible refine simO_let ?_
    | refine simO_nil ?_
    | ((with_reducible refine gC ?_); first
     | refine oC true (hh := fun t ht => steelyardref07_Sign.holds _ _ _ _ t ht) (h := fun t => ?_)
     | refine oC true (hh := fun t ht => steelyardref10_May.holds _ _ _ _ _ t ht) (h := fun t => ?_)
     | refine oC true (hh := fun t ht => steelyardref05_Ten.holds _ _ t ht) (h := fun t => ?_)
     | refine oC true (hh := fun t ht => steelyardref02_Of.holds _ _ _ t ht) (h := fun t => ?_)
     | refine oC false (hh := fun t ht => steelyardref03_Rem.holds _ _ _ t ht) (h := fun t => ?_)
     | refine oC true (hh := fun t ht => steelyardref04_Floor.holds _ _ t ht) (h := fun t => ?_)
     | refine oCg true (hh := fun t ht => steelyardref04_Exact.holds _ _ t ht) (h := fun t => ?_)
     | refine oC true (hh := fun t ht => steelyardref01_Add.holds _ _ _ t ht) (h := fun t => ?_)
     | refine oC false (hh := fun t ht => steelyardref07_Of.holds _ _ _ _ t ht) (h := fun t => ?_)
     | refine oC false (hh := fun t ht => steelyardref06_Make.holds _ _ _ t ht) (h := fun t => ?_)
     | fail)
    | refine oV (h := ?_)
    | refine oVg (h := ?_)
    | refine oKg (h := ?_)
    | refine oKu (h := ?_)
    | refine oS (h := ?_)
    | refine oN (h := ?_)
    | refine oNg (h := ?_)
    | refine oA (h := ?_)
    | (refine oJ (fun k => steelyardref25_Root.j0 k _ _ _ _) rfl (fun k hk => ?_); simp only [steelyardref25_Root.j0, reduceIte, Bool.false_eq_true, decide_eq_true_eq])
    | (refine oJ (fun k => steelyardref25_Root.j1 k _ _ _) rfl (fun k hk => ?_); simp only [steelyardref25_Root.j1, reduceIte, Bool.false_eq_true, decide_eq_true_eq])
    | fail)
   | fail

end Go.Proofs.YtjgmmaeafodpmaaGreatDoor.P
