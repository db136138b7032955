/- Contracts: each Go function of a package comes to its plain function. -/
import Derived.Test.YtjgmmaeafodpmaaGreatDoorMb
import Derived.Test.YtjgmmaeafodpmaaGreatDoorMx
import Derived.Test.YtjgmmaeafodpmaaGreatDoorHrat
import Derived.Test.YtjgmmaeafodpmaaGreatDoorHdigits
import Derived.Test.YtjgmmaeafodpmaaGreatDoorHmul
import Derived.Test.YtjgmmaeafodpmaaGreatDoorHquo
import Derived.Test.YtjgmmaeafodpmaaGreatDoorHroot
import Derived.Test.YtjgmmaeafodpmaaGreatDoorHnat
import Derived.Test.YtjgmmaeafodpmaaGreatDoorHdecimal
set_option linter.unusedVariables false
set_option linter.unusedSimpArgs false
set_option maxRecDepth 100000
set_option maxHeartbeats 8000000
namespace Go.Proofs.YtjgmmaeafodpmaaGreatDoor.P
open Go Go.RowKit Go.Proofs.YtjgmmaeafodpmaaGreatDoor.Am Go.Proofs.YtjgmmaeafodpmaaGreatDoorW.PrintWords Go.Proofs.YtjgmmaeafodpmaaGreatDoorW.PrintMore
attribute [local irreducible] cpy rd bt strOfNums ByteArray.extract
theorem enclose_Root.holds {mx : Int} (k : Nat) (a0_0 : Bool) (l0_1 : List Int) (l0_2 : List Int) (a1 : Int) (r : Bool × List Int × List Int × Bool × List Int × List Int × Int) (h : enclose_Root.f k a0_0 l0_1 l0_2 a1 = some r) : Holds Tryz.prog (G0 mx) 13 [] [.agg [.bool a0_0, .sl 1 (.int .u32 0) (l0_1.map (AV.int .u32)), .sl 1 (.int .u32 0) (l0_2.map (AV.int .u32))], .int .i64 a1] (.tup [.agg [.bool r.1, .sl 1 (.int .u32 0) (r.2.1.map (AV.int .u32)), .sl 1 (.int .u32 0) (r.2.2.1.map (AV.int .u32))], .agg [.bool r.2.2.2.1, .sl 1 (.int .u32 0) (r.2.2.2.2.1.map (AV.int .u32)), .sl 1 (.int .u32 0) (r.2.2.2.2.2.1.map (AV.int .u32))], .int .i64 r.2.2.2.2.2.2]) [] := by
  refine holds_of_sim (fun (r : Bool × List Int × List Int × Bool × List Int × List Int × Int) => (.tup [.agg [.bool r.1, .sl 1 (.int .u32 0) (r.2.1.map (AV.int .u32)), .sl 1 (.int .u32 0) (r.2.2.1.map (AV.int .u32))], .agg [.bool r.2.2.2.1, .sl 1 (.int .u32 0) (r.2.2.2.2.1.map (AV.int .u32)), .sl 1 (.int .u32 0) (r.2.2.2.2.2.1.map (AV.int .u32))], .int .i64 r.2.2.2.2.2.2], [])) h Tryz.func13 rfl (by kernel_rfl) 98 rfl (by simp) (by simp) [(0, .agg [.bool a0_0, .sl 1 (.int .u32 0) (l0_1.map (AV.int .u32)), .sl 1 (.int .u32 0) (l0_2.map (AV.int .u32))]), (1, .int .i64 a1)] rfl [] rfl [.cell 4 27, .cell 5 27, .tmp 6] rfl ?_
  clear h
  unfold enclose_Root.f
  refine sim_mk ?_
  repeat' first
   | ((with_reducible refine gS ?_); first
    | with_reducible refine sim_seq ?_
    | with_reducible refine sim_block ?_
    | with_reducible refine sim_skip ?_
    | with_reducible refine sim_inBlock ?_
    | with_reducible exact sim_none
    | refine sR (h := ?_)
    | refine sX (h := ?_)
    | refine sDb 4 5 (hm := by exact mixed) (hi := ⟨_, _, _, _, _, _, rfl, rfl, by decide⟩) (h := ?_)
    | ((with_reducible refine sGb ?_); first | refine sTe (h := ?_) | refine sFd (h := ?_) | refine sTb (h := ?_) | refine sFb (h := ?_))
    | with_reducible refine sBd (fun hb hc => ?_) (fun hb hc => ?_) (fun hb hc => ?_) (fun hb hc => ?_)
    | ((with_reducible refine sGb ?_); refine sIb (fun hb => ?_) (fun hb => ?_))
    | ((with_reducible refine sGi ?_); first | refine sT (h := ?_) | refine sF' (h := ?_) | refine sI (fun hb hc => ?_) (fun hb hc => ?_))
    | with_reducible refine sim_let ?_
    | refine sY (h := ?_)
    | refine sN (h := ?_)
    | (refine sJ (fun k => enclose_Root.j0 k _ _ _ _ _) rfl (fun k hk => ?_); simp only [enclose_Root.j0, reduceIte, Bool.false_eq_true, decide_eq_true_eq])
    | (refine sJ (fun k => enclose_Root.j1 k _ _ _ _) rfl (fun k hk => ?_); simp only [enclose_Root.j1, reduceIte, Bool.false_eq_true, decide_eq_true_eq])
    | (refine sJ (fun k => enclose_Root.j2 k _ _ _) rfl (fun k hk => ?_); simp only [enclose_Root.j2, reduceIte, Bool.false_eq_true, decide_eq_true_eq])
    | refine sF [] false
    | refine sFe [] false
    | fail)
   | ((with_reducible refine gO ?_); first
    | with_reducible exact simO_none
    | ((with_reducible refine oGb ?_); first | refine oTe (h := ?_) | refine oFd (h := ?_) | refine oTb (h := ?_) | refine oFb (h := ?_))
    | with_reducible refine oBd (fun hb hc => ?_) (fun hb hc => ?_) (fun hb hc => ?_) (fun hb hc => ?_)
    | ((with_reducible refine oGb ?_); refine oIb (fun hb => ?_) (fun hb => ?_))
    | ((with_reducible refine oGi ?_); first | refine oT (h := ?_) | refine oF' (h := ?_) | refine oI (fun hb hc => ?_) (fun hb hc => ?_))
    | with_reducible refine simO_let ?_
    | refine simO_nil ?_
    | ((with_reducible refine gC ?_); first
     | refine oC true (hh := fun t ht => rat_Sign.holds _ _ _ _ t ht) (h := fun t => ?_)
     | refine oC true (hh := fun t ht => digits_Ten.holds _ _ t ht) (h := fun t => ?_)
     | refine oC false (hh := fun t ht => rat_Of.holds _ _ _ _ t ht) (h := fun t => ?_)
     | refine oC true (hh := fun t ht => rat_Good.holds _ _ _ _ t ht) (h := fun t => ?_)
     | refine oC true (hh := fun t ht => quo_Rem.holds _ _ _ t ht) (h := fun t => ?_)
     | refine oC true (hh := fun t ht => mul_Of.holds _ _ _ t ht) (h := fun t => ?_)
     | refine oC false (hh := fun t ht => root_Floor.holds _ _ t ht) (h := fun t => ?_)
     | refine oC true (hh := fun t ht => nat_Add.holds _ _ _ t ht) (h := fun t => ?_)
     | refine oC true (hh := fun t ht => nat_Of.holds _ _ t ht) (h := fun t => ?_)
     | fail)
    | refine oV (h := ?_)
    | refine oVg (h := ?_)
    | refine oKg (h := ?_)
    | refine oKu (h := ?_)
    | refine oS (h := ?_)
    | refine oN (h := ?_)
    | refine oNg (h := ?_)
    | refine oA (h := ?_)
    | (refine oJ (fun k => enclose_Root.j0 k _ _ _ _ _) rfl (fun k hk => ?_); simp only [enclose_Root.j0, reduceIte, Bool.false_eq_true, decide_eq_true_eq])
    | (refine oJ (fun k => enclose_Root.j1 k _ _ _ _) rfl (fun k hk => ?_); simp only [enclose_Root.j1, reduceIte, Bool.false_eq_true, decide_eq_true_eq])
    | (refine oJ (fun k => enclose_Root.j2 k _ _ _) rfl (fun k hk => ?_); simp only [enclose_Root.j2, reduceIte, Bool.false_eq_true, decide_eq_true_eq])
    | fail)
   | fail

theorem enclose_Text.holds {mx : Int} (k : Nat) (a0_0 : Bool) (l0_1 : List Int) (l0_2 : List Int) (a1 : Int) (r : ByteArray × ByteArray × Int) (h : enclose_Text.f k a0_0 l0_1 l0_2 a1 = some r) : Holds Tryz.prog (G0 mx) 14 [] [.agg [.bool a0_0, .sl 1 (.int .u32 0) (l0_1.map (AV.int .u32)), .sl 1 (.int .u32 0) (l0_2.map (AV.int .u32))], .int .i64 a1] (.tup [.str r.1, .str r.2.1, .int .i64 r.2.2]) [] := by
  refine holds_of_sim (fun (r : ByteArray × ByteArray × Int) => (.tup [.str r.1, .str r.2.1, .int .i64 r.2.2], [])) h Tryz.func14 rfl (by kernel_rfl) 37 rfl (by simp) (by simp) [(0, .agg [.bool a0_0, .sl 1 (.int .u32 0) (l0_1.map (AV.int .u32)), .sl 1 (.int .u32 0) (l0_2.map (AV.int .u32))]), (1, .int .i64 a1)] rfl [] rfl [.tmp 4, .tmp 5, .tmp 6] rfl ?_
  clear h
  unfold enclose_Text.f
  refine sim_mk ?_
  repeat' first
   | ((with_reducible refine gS ?_); first
    | with_reducible refine sim_seq ?_
    | with_reducible refine sim_block ?_
    | with_reducible refine sim_skip ?_
    | with_reducible refine sim_inBlock ?_
    | with_reducible exact sim_none
    | refine sR (h := ?_)
    | refine sX (h := ?_)
    | refine sD (hm := by exact mixed) (h := ?_)
    | ((with_reducible refine sGb ?_); first | refine sTe (h := ?_) | refine sFd (h := ?_) | refine sTb (h := ?_) | refine sFb (h := ?_))
    | with_reducible refine sBd (fun hb hc => ?_) (fun hb hc => ?_) (fun hb hc => ?_) (fun hb hc => ?_)
    | ((with_reducible refine sGb ?_); refine sIb (fun hb => ?_) (fun hb => ?_))
    | ((with_reducible refine sGi ?_); first | refine sT (h := ?_) | refine sF' (h := ?_) | refine sI (fun hb hc => ?_) (fun hb hc => ?_))
    | with_reducible refine sim_let ?_
    | refine sY (h := ?_)
    | refine sN (h := ?_)
    | (refine sJ (fun k => enclose_Text.j0 k _ _ _ _ _ _) rfl (fun k hk => ?_); simp only [enclose_Text.j0, reduceIte, Bool.false_eq_true, decide_eq_true_eq])
    | refine sF [] false
    | refine sFe [] false
    | fail)
   | ((with_reducible refine gO ?_); first
    | with_reducible exact simO_none
    | ((with_reducible refine oGb ?_); first | refine oTe (h := ?_) | refine oFd (h := ?_) | refine oTb (h := ?_) | refine oFb (h := ?_))
    | with_reducible refine oBd (fun hb hc => ?_) (fun hb hc => ?_) (fun hb hc => ?_) (fun hb hc => ?_)
    | ((with_reducible refine oGb ?_); refine oIb (fun hb => ?_) (fun hb => ?_))
    | ((with_reducible refine oGi ?_); first | refine oT (h := ?_) | refine oF' (h := ?_) | refine oI (fun hb hc => ?_) (fun hb hc => ?_))
    | with_reducible refine simO_let ?_
    | refine simO_nil ?_
    | ((with_reducible refine gC ?_); first
     | refine oC false (hh := fun t ht => enclose_Root.holds _ _ _ _ _ t ht) (h := fun t => ?_)
     | refine oC true (hh := fun t ht => decimal_Down.holds _ _ _ _ _ t ht) (h := fun t => ?_)
     | fail)
    | refine oV (h := ?_)
    | refine oKu (h := ?_)
    | refine oS (h := ?_)
    | refine oN (h := ?_)
    | refine oA (h := ?_)
    | (refine oJ (fun k => enclose_Text.j0 k _ _ _ _ _ _) rfl (fun k hk => ?_); simp only [enclose_Text.j0, reduceIte, Bool.false_eq_true, decide_eq_true_eq])
    | fail)
   | fail

end Go.Proofs.YtjgmmaeafodpmaaGreatDoor.P
