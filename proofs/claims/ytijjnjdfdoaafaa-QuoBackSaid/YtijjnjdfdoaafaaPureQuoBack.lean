/- The quotient times the divisor, and what is left, is the number; what is left is below the divisor. -/
import Derived.Test.YtijjnjdfdoaafaaLibW3
import Derived.Test.YtijjnjdfdoaafaaPxlawQuoBack
set_option linter.unusedVariables false
set_option linter.unusedSimpArgs false
namespace Go.Proofs.Ytijjnjdfdoaafaa.Pure
open Go.RowKit Go.Proofs.Ytijjnjdfdoaafaa.P Go.Proofs.YtijjnjdfdoaafaaW.PrintWords Go.Proofs.YtijjnjdfdoaafaaW.PrintMore Go.Proofs.Ytijjnjdfdoaafaa.Lib
theorem QuoBack : steelyardlaw03_QuoBack.Pure := by
  intro a b c _ _ ha _ _ hb _ _ hc
  apply Ev.rounds
  have wk : Ev (fun k => steelyardlaw03_QuoBack.j0 k a b c true) true := Ev.succ (by simp only [steelyardlaw03_QuoBack.j0]; exact Ev.ifp trivial (Ev.bind wakes3 (Ev.now _)))
  unfold steelyardlaw03_QuoBack.f
  by_cases h1 : (a.length : Int) > 60
  · exact Ev.ifp h1 wk
  refine Ev.ifn h1 ?_
  by_cases h2 : (b.length : Int) > 60
  · exact Ev.ifp h2 wk
  refine Ev.ifn h2 ?_
  by_cases h3 : (c.length : Int) > 60
  · rw [decide_eq_true h3]; exact wk
  rw [decide_eq_false h3]
  have sa : S 60 a := S_of (wf_u32 ha) h1
  have sb : S 60 b := S_of (wf_u32 hb) h2
  have sc : S 60 c := S_of (wf_u32 hc) h3
  refine Ev.succ ?_
  simp only [steelyardlaw03_QuoBack.j0]
  refine Ev.ifn (by decide) ?_
  by_cases hb0 : V b = 0
  · refine Ev.bind (Rem_no sb (by omega) hb0) (Ev.bind (Bits_to sb (by omega) hb0) ?_)
    exact Ev.ifp rfl (Ev.ifn (by decide) (Ev.ifp rfl (Ev.ifp rfl (Ev.bind wakes3 (Ev.now _)))))
  have hlt : V a % V b < V b := Nat.mod_lt _ (by omega)
  have hlt2 : V c % V b < V b := Nat.mod_lt _ (by omega)
  have lq : V a / V b < Bp 60 := lt_le sa.v (Nat.div_le_self _ _)
  have lr : V a % V b < Bp 60 := Nat.lt_trans hlt sb.v
  have lr2 : V c % V b < Bp 60 := Nat.lt_trans hlt2 sb.v
  have lqb : V a / V b * V b < Bp 120 := lt_mul lq sb.v (by omega)
  have lab : V a * V b < Bp 120 := lt_mul sa.v sb.v (by omega)
  have ls : V a * V b + V c % V b < Bp 121 := lt_add lab (lt_up lr2 (by omega)) (by omega)
  refine Ev.bind (Rem_to sa sb (by omega) (by omega) hb0 rfl rfl) (Ev.bind (Bits_to sb (by omega) rfl) (Ev.ifn (fun h => hb0 (bl_iff.1 h)) (Ev.ifp rfl ?_)))
  obtain ⟨t, ht⟩ : ∃ t, cmpI (V a % V b) (V b) = t := ⟨_, rfl⟩
  have rt := cmpI_range (V a % V b) (V b)
  rw [ht] at rt
  refine Ev.bind (Cmp_to (S_L lr) sb (by omega) (c := t) (by rw [V_L]; exact ht)) (Ev.ifn (by omega) ?_)
  refine Ev.bind (Mul_to (S_L lq) sb (by omega) (n := V a / V b * V b) (by rw [V_L])) ?_
  refine Ev.bind (Add_to (S_L lqb) (S_L (lt_up lr (by omega))) (by omega) (n := V a) (by rw [V_L, V_L, Nat.mul_comm]; exact Nat.div_add_mod _ _)) ?_
  refine Ev.bind (Trim_to sa (by omega) rfl) (Ev.bind (keep_to (S_L sa.v) (by omega) rfl) ?_)
  refine Ev.succ ?_
  simp only [steelyardlaw03_QuoBack.j1]
  refine Ev.ifn (by decide) (Ev.bind (Rem_to sc sb (by omega) (by omega) hb0 rfl rfl) (Ev.bind (Mul_to sa sb (by omega) rfl) ?_))
  refine Ev.bind (Add_to (S_L lab) (S_L (lt_up lr2 (by omega))) (by omega) (n := V a * V b + V c % V b) (by rw [V_L, V_L])) ?_
  refine Ev.bind (Rem_to (S_L ls) sb (by omega) (by omega) hb0 (q := V a) (r := V c % V b) ?_ ?_) (Ev.ifp rfl (Ev.bind (Trim_to sa (by omega) rfl) (Ev.bind (keep_to (S_L sa.v) (by omega) rfl) (Ev.ifp rfl (Ev.bind (keep_to (S_L lr2) (by omega) rfl) (Ev.ifp rfl (Ev.bind wakes3 (Ev.now _))))))))
  · rw [V_L, Nat.add_comm, Nat.add_mul_div_right _ _ (by omega), Nat.div_eq_of_lt hlt2, Nat.zero_add]
  · rw [V_L, Nat.add_comm, Nat.add_mul_mod_self_right, Nat.mod_eq_of_lt hlt2]
end Go.Proofs.Ytijjnjdfdoaafaa.Pure
