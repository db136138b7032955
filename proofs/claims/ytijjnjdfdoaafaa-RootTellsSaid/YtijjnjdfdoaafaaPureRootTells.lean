/- The roots of any number of at most 20 limbs, from below and from above, and whether it is a square: what the reference says. -/
import Derived.Test.YtijjnjdfdoaafaaLibW4
import Derived.Test.YtijjnjdfdoaafaaLibT
import Derived.Test.YtijjnjdfdoaafaaLibO
import Derived.Test.YtijjnjdfdoaafaaPxlawRootTells
set_option linter.unusedVariables false
set_option linter.unusedSimpArgs false
namespace Go.Proofs.Ytijjnjdfdoaafaa.Pure
open Go.RowKit Go.Proofs.Ytijjnjdfdoaafaa.P Go.Proofs.YtijjnjdfdoaafaaW.PrintWords Go.Proofs.YtijjnjdfdoaafaaW.PrintMore Go.Proofs.Ytijjnjdfdoaafaa.Lib
theorem RootTells : steelyardlaw04_RootTells.Pure := by
  intro a _ _ ha
  apply Ev.rounds
  unfold steelyardlaw04_RootTells.f
  by_cases h1 : (a.length : Int) > 20
  · exact Ev.ifp h1 (Ev.bind wakes4 (Ev.now _))
  have sa : S 20 a := S_of (wf_u32 ha) h1
  have la := sa.2
  have lr : rt (V a) < Bp 20 := rt_Bp sa.v
  refine Ev.ifn h1 ?_
  simp only [OwnNat_spec (show a.length ≤ 1000000 by omega), Option.bind_some]
  refine Ev.bind (Floor_to sa (by omega) rfl) (Ev.bind (rFloor_to sa (by omega) rfl) (Ev.bind (rExact_to sa (by omega) rfl) ?_))
  have main : ∀ c, L (ct (V a)) = c → Ev (fun k => steelyardlaw04_RootTells.j0 k a a (L (rt (V a))) (decide (rt (V a) * rt (V a) = V a)) (L (rt (V a))) c) true := by
    intro c hc
    refine Ev.succ ?_
    simp only [steelyardlaw04_RootTells.j0]
    refine Ev.bind (keep_to (S_L lr) (by omega) rfl) (Ev.ifp rfl (Ev.bind (rExact_to sa (by omega) rfl) (Ev.ifp (by simp) ?_)))
    have lc : ct (V a) < Bp 21 := by
      unfold ct
      split
      · exact lt_up lr (by omega)
      · exact lt_add lr (one_lt_Bp (by omega)) (by omega)
    exact Ev.bind (Ceil_to sa (by omega) rfl) (Ev.bind (keep_to (S_L lc) (by omega) hc) (Ev.ifp rfl (Ev.bind (keep_to sa (by omega) rfl) (Ev.ifp rfl (Ev.bind wakes4 (Ev.now _))))))
  by_cases c : rt (V a) * rt (V a) = V a
  · exact Ev.ifp (decide_eq_true c) (main _ (by unfold ct; rw [if_pos c]))
  · refine Ev.ifn (by rw [decide_eq_false c]; exact Bool.false_ne_true) (Ev.bind (rAdd_to (m := 20) (S_L lr) (S_one (by omega) (by omega) (by omega)) (by omega) (n := rt (V a) + 1) (by rw [V_L]; rfl)) (main _ (by unfold ct; rw [if_neg c])))
end Go.Proofs.Ytijjnjdfdoaafaa.Pure
