/- Sums of limb lists are those of their numbers: alike both ways, in whatever brackets; what was added and taken away again leaves the number; a sum is above unless nothing was added. -/
import Derived.Test.YthcnnkajnmnloaaLibW1
import Derived.Test.YthcnnkajnmnloaaPxlawNatSums
set_option linter.unusedVariables false
set_option linter.unusedSimpArgs false
namespace Go.Proofs.Ythcnnkajnmnloaa.Pure
open Go.RowKit Go.Proofs.Ythcnnkajnmnloaa.P Go.Proofs.YthcnnkajnmnloaaW.PrintWords Go.Proofs.Ythcnnkajnmnloaa.Lib
theorem NatSums : steelyardlaw01_NatSums.Pure := by
  intro a b c _ _ ha _ _ hb _ _ hc
  apply Ev.rounds
  have wk : Ev (fun k => steelyardlaw01_NatSums.j0 k a b c true) true := Ev.succ (by simp only [steelyardlaw01_NatSums.j0]; exact Ev.ifp trivial (Ev.bind wakes1 (Ev.now _)))
  unfold steelyardlaw01_NatSums.f
  simp only [long_spec, Option.bind_some]
  by_cases h1 : (a.length : Int) > 300
  · exact Ev.ifp (decide_eq_true h1) wk
  refine Ev.ifn (by simpa using h1) ?_
  by_cases h2 : (b.length : Int) > 300
  · exact Ev.ifp (decide_eq_true h2) wk
  refine Ev.ifn (by simpa using h2) ?_
  by_cases h3 : (c.length : Int) > 300
  · rw [decide_eq_true h3]; exact wk
  rw [decide_eq_false h3]
  have sa : S 300 a := S_of (wf_u32 ha) h1
  have sb : S 300 b := S_of (wf_u32 hb) h2
  have sc : S 300 c := S_of (wf_u32 hc) h3
  have s1 : S 301 (L (V a + V b)) := S_L (lt_add sa.v sb.v (by omega))
  have s2 : S 301 (L (V b + V c)) := S_L (lt_add sb.v sc.v (by omega))
  have s3 : S 302 (L (V a + V b + V c)) := S_L (lt_add (lt_add sa.v sb.v (by omega)) (sc.up (p := 301) (by omega)).v (by omega))
  refine Ev.succ ?_
  simp only [steelyardlaw01_NatSums.j0]
  refine Ev.ifn (by decide) ?_
  refine Ev.bind (Add_to sa sb (by omega) rfl) ?_
  refine Ev.bind (Sub_to s1 (sb.up (by omega)) (by omega) (n := V a) (by rw [V_L]; omega)) ?_
  refine Ev.bind (Add_to sb sa (by omega) (n := V a + V b) (by omega)) ?_
  refine Ev.bind (keep_to s1 (by omega) rfl) (Ev.ifp rfl ?_)
  refine Ev.bind (Add_to s1 (sc.up (by omega)) (by omega) (n := V a + V b + V c) (by rw [V_L])) ?_
  refine Ev.bind (Add_to sb sc (by omega) rfl) ?_
  refine Ev.bind (Add_to (sa.up (by omega)) s2 (by omega) (n := V a + V b + V c) (by rw [V_L]; omega)) ?_
  refine Ev.bind (keep_to s3 (by omega) rfl) (Ev.ifp rfl (Ev.ifp rfl ?_))
  refine Ev.bind (Trim_to sa (by omega) rfl) ?_
  refine Ev.bind (keep_to (S_L sa.v) (by omega) rfl) ?_
  refine Ev.succ ?_
  simp only [steelyardlaw01_NatSums.j1]
  refine Ev.ifn (by decide) ?_
  have hc1 := Cmp_to s1 (sa.up (p := 301) (by omega)) (by omega) (c := if V b = 0 then 0 else 1) (by
    rw [V_L]
    rcases cmpI_range (V a + V b) (V a) with ⟨e, h⟩ | ⟨e, h⟩ | ⟨e, h⟩
    · omega
    · rw [e, if_pos (by omega)]
    · rw [e, if_neg (by omega)])
  refine Ev.bind hc1 (Ev.bind (Bits_to sb (by omega) rfl) ?_)
  refine Ev.ifp ?_ (Ev.bind hc1 (Ev.ifp (by split <;> omega) (Ev.bind wakes1 (Ev.now _))))
  by_cases hb0 : V b = 0
  · rw [if_pos hb0, hb0]; rfl
  · have := bl_pos hb0
    have e : (((bl (V b) : Nat) : Int) == 0) = false := beq_eq_false_iff_ne.2 (by omega)
    rw [if_neg hb0, e]
    rfl
end Go.Proofs.Ythcnnkajnmnloaa.Pure
