/- What is taken away leaves so much: two differences one behind the other are that of the sum; of a number and itself nothing is left; of more than itself there is no difference. -/
import Derived.Test.YthcnnkajnmnloaaLibW1
import Derived.Test.YthcnnkajnmnloaaPxlawNatSubs
set_option linter.unusedVariables false
set_option linter.unusedSimpArgs false
namespace Go.Proofs.Ythcnnkajnmnloaa.Pure
open Go.RowKit Go.Proofs.Ythcnnkajnmnloaa.P Go.Proofs.YthcnnkajnmnloaaW.PrintWords Go.Proofs.YthcnnkajnmnloaaW.PrintMore Go.Proofs.Ythcnnkajnmnloaa.Lib
theorem NatSubs : steelyardlaw01_NatSubs.Pure := by
  intro a b c _ _ ha _ _ hb _ _ hc
  apply Ev.rounds
  have wk : Ev (fun k => steelyardlaw01_NatSubs.j0 k a b c true) true := Ev.succ (by simp only [steelyardlaw01_NatSubs.j0]; exact Ev.ifp trivial (Ev.bind wakes1 (Ev.now _)))
  unfold steelyardlaw01_NatSubs.f
  simp only [long_spec, Option.bind_some]
  by_cases h1 : (a.length : Int) > 300
  · exact Ev.ifp (decide_eq_true h1) wk
  refine Ev.ifn (by simpa using h1) ?_
  by_cases h2 : (b.length : Int) > 300
  · exact Ev.ifp (decide_eq_true h2) wk
  refine Ev.ifn (by simpa using h2) ?_
  by_cases h3 : (c.length : Int) > 300
  · rw [decide_eq_true h3]; exact wk
  rw [decide_eq_false h3]
  have sa : S 300 a := S_of (wf_u32 ha) h1
  have sb : S 300 b := S_of (wf_u32 hb) h2
  have sc : S 300 c := S_of (wf_u32 hc) h3
  have s1 : S 301 (L (V a + V b)) := S_L (lt_add sa.v sb.v (by omega))
  have s2 : S 301 (L (V b + V c)) := S_L (lt_add sb.v sc.v (by omega))
  have s3 : S 302 (L (V a + V b + V c)) := S_L (lt_add (lt_add sa.v sb.v (by omega)) (sc.up (p := 301) (by omega)).v (by omega))
  have s4 : S 302 (L (V a + V c)) := S_L (lt_add sa.v sc.v (by omega))
  have s5 : S 300 (L (V a)) := S_L sa.v
  refine Ev.succ ?_
  simp only [steelyardlaw01_NatSubs.j0]
  refine Ev.ifn (by decide) ?_
  refine Ev.bind (Add_to sa sb (by omega) rfl) ?_
  refine Ev.bind (Add_to s1 (sc.up (by omega)) (by omega) (n := V a + V b + V c) (by rw [V_L])) ?_
  refine Ev.bind (Sub_to s3 (sb.up (by omega)) (by omega) (n := V a + V c) (by rw [V_L]; omega)) ?_
  refine Ev.bind (Sub_to s4 (sc.up (by omega)) (by omega) (n := V a) (by rw [V_L]; omega)) ?_
  refine Ev.bind (Add_to sb sc (by omega) rfl) ?_
  refine Ev.bind (Sub_to s3 (s2.up (by omega)) (by omega) (n := V a) (by rw [V_L, V_L]; omega)) ?_
  refine Ev.bind (Sub_to sa sa (by omega) (n := 0) rfl) ?_
  refine Ev.ifp rfl (Ev.ifp rfl (Ev.ifp rfl (Ev.ifp rfl ?_)))
  refine Ev.bind (keep_to s5 (by omega) rfl) (Ev.ifp rfl ?_)
  refine Ev.bind (Trim_to sa (by omega) rfl) (Ev.bind (keep_to s5 (by omega) rfl) (Ev.ifp rfl ?_))
  rw [L_zero]
  refine Ev.succ ?_
  simp only [steelyardlaw01_NatSubs.j1]
  refine Ev.ifn (by decide) ?_
  refine Ev.bind (Of_to (by omega) (by omega) (n := 1) rfl) ?_
  refine Ev.bind (Add_to sa (S_L (lt_num (by omega) (by omega))) (by omega) (n := V a + 1) (by rw [V_L])) ?_
  refine Ev.bind (Sub_no (m := 301) (sa.up (by omega)) (S_L (lt_add sa.v (lt_num (by omega) (by omega)) (by omega))) (by omega) (by rw [V_L]; omega)) ?_
  exact Ev.ifn (by decide) (Ev.bind wakes1 (Ev.now _))
end Go.Proofs.Ythcnnkajnmnloaa.Pure
