/- Divided by two numbers one behind the other it is as by their product. -/
import Derived.Test.YtijjnjdfdoaafaaLibW3
import Derived.Test.YtijjnjdfdoaafaaPxlawQuoTwice
set_option linter.unusedVariables false
set_option linter.unusedSimpArgs false
namespace Go.Proofs.Ytijjnjdfdoaafaa.Pure
open Go.RowKit Go.Proofs.Ytijjnjdfdoaafaa.P Go.Proofs.YtijjnjdfdoaafaaW.PrintWords Go.Proofs.YtijjnjdfdoaafaaW.PrintMore Go.Proofs.Ytijjnjdfdoaafaa.Lib
theorem QuoTwice : steelyardlaw03_QuoTwice.Pure := by
  intro a b c _ _ ha _ _ hb _ _ hc
  apply Ev.rounds
  have wk : Ev (fun k => steelyardlaw03_QuoTwice.j0 k a b c true) true := Ev.succ (by simp only [steelyardlaw03_QuoTwice.j0]; exact Ev.ifp trivial (Ev.bind wakes3 (Ev.now _)))
  unfold steelyardlaw03_QuoTwice.f
  by_cases h1 : (a.length : Int) > 40
  · exact Ev.ifp h1 wk
  refine Ev.ifn h1 ?_
  by_cases h2 : (b.length : Int) > 15
  · exact Ev.ifp h2 wk
  refine Ev.ifn h2 ?_
  by_cases h3 : (c.length : Int) > 15
  · exact Ev.ifp h3 wk
  have sa : S 40 a := S_of (wf_u32 ha) h1
  have sb : S 15 b := S_of (wf_u32 hb) h2
  have sc : S 15 c := S_of (wf_u32 hc) h3
  refine Ev.ifn h3 (Ev.bind (Bits_to sb (by omega) rfl) ?_)
  by_cases hb0 : V b = 0
  · exact Ev.ifp (bl_iff.2 hb0) wk
  refine Ev.ifn (fun h => hb0 (bl_iff.1 h)) (Ev.bind (Bits_to sc (by omega) rfl) ?_)
  by_cases hc0 : V c = 0
  · rw [beq_iff_eq.2 (bl_iff.2 hc0)]; exact wk
  rw [beq_eq_false_iff_ne.2 (fun h => hc0 (bl_iff.1 h))]
  refine Ev.succ ?_
  simp only [steelyardlaw03_QuoTwice.j0]
  have lq : V a / V b < Bp 40 := lt_le sa.v (Nat.div_le_self _ _)
  have lbc : V b * V c < Bp 30 := lt_mul sb.v sc.v (by omega)
  refine Ev.ifn (by decide) (Ev.bind (Rem_to sa sb (by omega) (by omega) hb0 rfl rfl) ?_)
  refine Ev.bind (Rem_to (S_L lq) sc (by omega) (by omega) hc0 (q := V a / V b / V c) (by rw [V_L]) rfl) (Ev.bind (Mul_to sb sc (by omega) rfl) ?_)
  refine Ev.bind (Rem_to sa (S_L lbc) (by omega) (by omega) (by rw [V_L]; exact Nat.mul_ne_zero hb0 hc0) (q := V a / V b / V c) (by rw [V_L, Nat.div_div_eq_div_mul]) rfl) ?_
  exact Ev.ifp rfl (Ev.ifp rfl (Ev.ifp rfl (Ev.bind (keep_to (S_L (lt_le lq (Nat.div_le_self _ _))) (by omega) rfl) (Ev.ifp rfl (Ev.bind wakes3 (Ev.now _))))))
end Go.Proofs.Ytijjnjdfdoaafaa.Pure
