/- When two numbers are alike. -/
import Derived.Test.YtijjnjdfdoaafaaDoorLibB
import Derived.Test.YtijjnjdfdoaafaaDoorPxsteelyardkeep
set_option linter.unusedVariables false
set_option linter.unusedSimpArgs false
namespace Go.Proofs.YtijjnjdfdoaafaaDoor.Lib
open Go.RowKit Go.Proofs.YtijjnjdfdoaafaaDoorW.PrintWords Go.Proofs.YtijjnjdfdoaafaaDoorW.PrintMore Go.Proofs.YtijjnjdfdoaafaaDoor.P

/-! ### keep -/
theorem drop_getD (l : List Int) {i : Nat} (h : i < l.length) : l.drop i = l.getD i 0 :: l.drop (i + 1) := by
  rw [List.drop_eq_getElem_cons h, List.getD_eq_getElem?_getD, List.getElem?_eq_getElem h]
  rfl
theorem keep_spec {a b : List Int} (ha : a.length ≤ 1000000) : Ev (fun k => steelyardkeep_Nat.f k a b) (decide (a = b)) := by
  unfold steelyardkeep_Nat.f
  by_cases hl : a.length = b.length
  · have key : ∀ d i : Nat, a.length = i + d → Ev (fun k => steelyardkeep_Nat.l0 k a b (i : Int)) (decide (a.drop i = b.drop i)) := by
      intro d
      induction d with
      | zero =>
        intro i hi
        refine Ev.succ ?_
        simp only [steelyardkeep_Nat.l0]
        refine Ev.ifn (by omega) ?_
        rw [List.drop_eq_nil_of_le (by omega), List.drop_eq_nil_of_le (by omega)]
        exact Ev.now _
      | succ d ih =>
        intro i hi
        refine Ev.succ ?_
        simp only [steelyardkeep_Nat.l0, rd_nat]
        refine Ev.ifp (by omega) (Ev.ifp (by omega) (Ev.ifp (by omega) ?_))
        rw [drop_getD a (by omega), drop_getD b (by omega)]
        by_cases h : a.getD i 0 = b.getD i 0
        · refine Ev.ifp h ?_
          rw [w64_succ (by omega)]
          refine Ev.eq (ih (i + 1) (by omega)) (decide_eq_decide.2 ?_)
          rw [h]
          exact ⟨fun e => by rw [e], fun e => (List.cons.inj e).2⟩
        · refine Ev.ifn h ?_
          rw [decide_eq_false (fun e => h (List.cons.inj e).1)]
          exact Ev.now _
    exact Ev.ifp (by omega) (key a.length 0 (by omega))
  · refine Ev.ifn (by omega) ?_
    rw [decide_eq_false (fun e => hl (by rw [e]))]
    exact Ev.now _

end Go.Proofs.YtijjnjdfdoaafaaDoor.Lib
