/- Products are the same both ways, in whatever brackets; of a sum they are sums; by 0 and 1 what these make. -/
import Derived.Test.YthcnnkajnmnloaaLibM
import Derived.Test.YthcnnkajnmnloaaPxlawMulLaws
set_option linter.unusedVariables false
set_option linter.unusedSimpArgs false
namespace Go.Proofs.Ythcnnkajnmnloaa.Pure
open Go.RowKit Go.Proofs.Ythcnnkajnmnloaa.P Go.Proofs.YthcnnkajnmnloaaW.PrintWords Go.Proofs.YthcnnkajnmnloaaW.PrintMore Go.Proofs.Ythcnnkajnmnloaa.Lib
theorem MulLaws : steelyardlaw02_MulLaws.Pure := by
  intro a b c _ _ ha _ _ hb _ _ hc
  apply Ev.rounds
  have wk : Ev (fun k => steelyardlaw02_MulLaws.j0 k a b c true) true := Ev.succ (by simp only [steelyardlaw02_MulLaws.j0]; exact Ev.ifp trivial (Ev.bind wakes2 (Ev.now _)))
  unfold steelyardlaw02_MulLaws.f
  by_cases h1 : (a.length : Int) > 40
  · exact Ev.ifp h1 wk
  refine Ev.ifn h1 ?_
  by_cases h2 : (b.length : Int) > 40
  · exact Ev.ifp h2 wk
  refine Ev.ifn h2 ?_
  by_cases h3 : (c.length : Int) > 40
  · rw [decide_eq_true h3]; exact wk
  rw [decide_eq_false h3]
  have sa : S 40 a := S_of (wf_u32 ha) h1
  have sb : S 40 b := S_of (wf_u32 hb) h2
  have sc : S 40 c := S_of (wf_u32 hc) h3
  have s1 : S 80 (L (V a * V b)) := S_L (lt_mul sa.v sb.v (by omega))
  have s2 : S 80 (L (V b * V c)) := S_L (lt_mul sb.v sc.v (by omega))
  have s3 : S 120 (L (V a * V b * V c)) := S_L (lt_mul (lt_mul sa.v sb.v (Nat.le_refl _)) sc.v (by omega))
  have s4 : S 41 (L (V b + V c)) := S_L (lt_add sb.v sc.v (by omega))
  have s5 : S 81 (L (V a * (V b + V c))) := S_L (lt_mul sa.v (lt_add sb.v sc.v (Nat.lt_succ_self 40)) (by omega))
  have s6 : S 80 (L (V a * V c)) := S_L (lt_mul sa.v sc.v (by omega))
  refine Ev.succ ?_
  simp only [steelyardlaw02_MulLaws.j0]
  refine Ev.ifn (by decide) ?_
  refine Ev.bind (Mul_to sa sb (by omega) rfl) (Ev.bind (Mul_to sb sa (by omega) (n := V a * V b) (Nat.mul_comm _ _)) (Ev.bind (keep_to s1 (by omega) rfl) (Ev.ifp rfl ?_)))
  refine Ev.bind (Mul_to s1 sc (by omega) (n := V a * V b * V c) (by rw [V_L])) (Ev.bind (Mul_to sb sc (by omega) rfl) (Ev.bind (Mul_to sa s2 (by omega) (n := V a * V b * V c) (by rw [V_L, Nat.mul_assoc])) ?_))
  refine Ev.bind (keep_to s3 (by omega) rfl) (Ev.ifp rfl ?_)
  refine Ev.bind (Add_to sb sc (by omega) rfl) (Ev.bind (Mul_to sa s4 (by omega) (n := V a * (V b + V c)) (by rw [V_L])) (Ev.bind (Mul_to sa sc (by omega) rfl) ?_))
  refine Ev.bind (Add_to s1 s6 (by omega) (n := V a * (V b + V c)) (by rw [V_L, V_L, Nat.mul_add])) (Ev.bind (keep_to s5 (by omega) rfl) ?_)
  refine Ev.succ ?_
  simp only [steelyardlaw02_MulLaws.j1]
  refine Ev.ifn (by decide) ?_
  refine Ev.bind (Mul_to sa (S_nil (m := 0)) (by omega) (n := 0) rfl) ?_
  rw [L_zero]
  refine Ev.ifp rfl ?_
  refine Ev.bind (Of_to (by omega) (by omega) (n := 1) rfl) (Ev.bind (Mul_to sa (S_L (one_lt_Bp (m := 1) (by omega))) (by omega) (n := V a) (by rw [V_L, Nat.mul_one])) ?_)
  exact Ev.bind (Trim_to sa (by omega) rfl) (Ev.bind (keep_to (S_L sa.v) (by omega) rfl) (Ev.ifp rfl (Ev.bind wakes2 (Ev.now _))))
end Go.Proofs.Ythcnnkajnmnloaa.Pure
