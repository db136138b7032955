/- The root's square is not above the number, that of one more is; the root of a square is it, exactly; Ceil is Floor, or one more. -/
import Derived.Test.YtijjnjdfdoaafaaLibW4
import Derived.Test.YtijjnjdfdoaafaaPxlawRootSquares
set_option linter.unusedVariables false
set_option linter.unusedSimpArgs false
namespace Go.Proofs.Ytijjnjdfdoaafaa.Pure
open Go.RowKit Go.Proofs.Ytijjnjdfdoaafaa.P Go.Proofs.YtijjnjdfdoaafaaW.PrintWords Go.Proofs.YtijjnjdfdoaafaaW.PrintMore Go.Proofs.Ytijjnjdfdoaafaa.Lib
theorem RootSquares : steelyardlaw04_RootSquares.Pure := by
  intro a _ _ ha
  apply Ev.rounds
  unfold steelyardlaw04_RootSquares.f
  by_cases h1 : (a.length : Int) > 60
  · exact Ev.ifp h1 (Ev.bind wakes4 (Ev.now _))
  have sa : S 60 a := S_of (wf_u32 ha) h1
  obtain ⟨A, hA⟩ : ∃ A, V a = A := ⟨_, rfl⟩
  have lA : A < Bp 60 := hA ▸ sa.v
  have lr : rt A < Bp 60 := rt_Bp lA
  have ln : rt A + 1 < Bp 61 := lt_add lr (one_lt_Bp (by omega)) (by omega)
  have lss : rt A * rt A < Bp 122 := lt_mul lr lr (by omega)
  have lnn : (rt A + 1) * (rt A + 1) < Bp 122 := lt_mul ln ln (by omega)
  have laa : A * A < Bp 120 := lt_mul lA lA (by omega)
  have hle := rt_le A
  have hlt := rt_lt A
  have rc := cmpI_range (rt A * rt A) A
  have rc2 := cmpI_range ((rt A + 1) * (rt A + 1)) A
  have cs : Ev (fun k => nat_Cmp.f k (L (rt A * rt A)) a) (cmpI (rt A * rt A) A) := Cmp_to (S_L lss) (sa.up (by omega)) (by omega) (by rw [V_L, hA])
  refine Ev.ifn h1 (Ev.bind (Floor_to sa (by omega) hA) (Ev.bind (Of_to (by omega) (by omega) (n := 1) rfl) ?_))
  refine Ev.bind (Add_to (m := 60) (S_L lr) (S_L (one_lt_Bp (by omega))) (by omega) (n := rt A + 1) (by rw [V_L, V_L])) ?_
  refine Ev.bind (Mul_to (S_L lr) (S_L lr) (by omega) (n := rt A * rt A) (by rw [V_L])) (Ev.bind cs (Ev.ifn (by omega) ?_))
  refine Ev.bind (Mul_to (S_L ln) (S_L ln) (by omega) (n := (rt A + 1) * (rt A + 1)) (by rw [V_L])) ?_
  refine Ev.bind (Cmp_to (S_L lnn) (sa.up (by omega)) (by omega) (c := cmpI ((rt A + 1) * (rt A + 1)) A) (by rw [V_L, hA])) (Ev.ifn (by omega) (Ev.bind cs ?_))
  have eb : (decide (rt A * rt A = A) != (cmpI (rt A * rt A) A == 0)) = false := by
    by_cases z : rt A * rt A = A
    · rw [decide_eq_true z, beq_iff_eq.2 (by omega)]; rfl
    · rw [decide_eq_false z, beq_eq_false_iff_ne.2 (by omega)]; rfl
  have j1 : Ev (fun k => steelyardlaw04_RootSquares.j1 k a false) true := by
    refine Ev.succ ?_
    simp only [steelyardlaw04_RootSquares.j1]
    refine Ev.ifn (by decide) (Ev.bind (Mul_to sa sa (by omega) (n := A * A) (by rw [hA])) (Ev.bind (Floor_to (S_L laa) (by omega) (V_L _)) ?_))
    rw [rt_sq]
    exact Ev.ifp (decide_eq_true rfl) (Ev.bind (Trim_to sa (by omega) hA) (Ev.bind (keep_to (S_L lA) (by omega) rfl) (Ev.ifp rfl (Ev.bind wakes4 (Ev.now _)))))
  rw [eb]
  refine Ev.succ ?_
  simp only [steelyardlaw04_RootSquares.j0]
  refine Ev.ifn (by decide) (Ev.bind (Ceil_to sa (by omega) hA) ?_)
  by_cases c : rt A * rt A = A
  · refine Ev.ifp (decide_eq_true c) (Ev.bind (keep_to (m := 60) ?_ (by omega) ?_) (Ev.ifp rfl j1))
    · unfold ct; rw [if_pos c]; exact S_L lr
    · unfold ct; rw [if_pos c]
  · refine Ev.ifn (by rw [decide_eq_false c]; exact Bool.false_ne_true) (Ev.bind (keep_to (m := 61) ?_ (by omega) ?_) j1)
    · unfold ct; rw [if_neg c]; exact S_L ln
    · unfold ct; rw [if_neg c]
end Go.Proofs.Ytijjnjdfdoaafaa.Pure
