/- The square of a sum is both squares and twice the product; a difference of squares is a product. -/
import Derived.Test.YtpflhfblgfnciaaLibM
import Derived.Test.YtpflhfblgfnciaaPxlawMulSquares
set_option linter.unusedVariables false
set_option linter.unusedSimpArgs false
namespace Go.Proofs.Ytpflhfblgfnciaa.Pure
open Go.RowKit Go.Proofs.Ytpflhfblgfnciaa.P Go.Proofs.YtpflhfblgfnciaaW.PrintWords Go.Proofs.YtpflhfblgfnciaaW.PrintMore Go.Proofs.Ytpflhfblgfnciaa.Lib
theorem sq_sum (x y : Nat) : (x + y) * (x + y) = x * x + y * y + x * y * 2 := by
  rw [Nat.add_mul, Nat.mul_add, Nat.mul_add, Nat.mul_comm y x]
  omega
theorem sq_diff {x y : Nat} (h : y ≤ x) : x * x = y * y + (x + y) * (x - y) := by
  obtain ⟨d, rfl⟩ := Nat.exists_eq_add_of_le h
  rw [show y + d - y = d by omega, Nat.add_mul, Nat.mul_add, Nat.mul_add, Nat.add_mul, Nat.add_mul, Nat.mul_comm d y]
  omega
theorem MulSquares : steelyardlaw02_MulSquares.Pure := by
  intro a b _ _ ha _ _ hb
  apply Ev.rounds
  have wk : Ev (fun k => steelyardlaw02_MulSquares.j0 k a b true) true := Ev.succ (by simp only [steelyardlaw02_MulSquares.j0]; exact Ev.ifp trivial (Ev.bind wakes2 (Ev.now _)))
  unfold steelyardlaw02_MulSquares.f
  by_cases h1 : (a.length : Int) > 40
  · exact Ev.ifp h1 wk
  refine Ev.ifn h1 ?_
  by_cases h2 : (b.length : Int) > 40
  · rw [decide_eq_true h2]; exact wk
  rw [decide_eq_false h2]
  have sa : S 40 a := S_of (wf_u32 ha) h1
  have sb : S 40 b := S_of (wf_u32 hb) h2
  have ls : V a + V b < Bp 41 := lt_add sa.v sb.v (by omega)
  have lp : V a * V b < Bp 80 := lt_mul sa.v sb.v (by omega)
  have lss : (V a + V b) * (V a + V b) < Bp 82 := lt_mul ls ls (by omega)
  have laa : V a * V a < Bp 80 := lt_mul sa.v sa.v (by omega)
  have lbb : V b * V b < Bp 80 := lt_mul sb.v sb.v (by omega)
  have lp2 : V a * V b * 2 < Bp 81 := lt_mul lp (show 2 < Bp 1 by decide) (by omega)
  have lab : V a * V a + V b * V b < Bp 81 := lt_add laa lbb (by omega)
  refine Ev.succ ?_
  simp only [steelyardlaw02_MulSquares.j0]
  refine Ev.ifn (by decide) ?_
  refine Ev.bind (Add_to sa sb (by omega) rfl) (Ev.bind (Mul_to sa sb (by omega) rfl) ?_)
  refine Ev.bind (Mul_to (S_L ls) (S_L ls) (by omega) (n := (V a + V b) * (V a + V b)) (by rw [V_L])) ?_
  refine Ev.bind (Mul_to sa sa (by omega) rfl) (Ev.bind (Mul_to sb sb (by omega) rfl) (Ev.bind (Add_to (S_L laa) (S_L lbb) (by omega) (n := V a * V a + V b * V b) (by rw [V_L, V_L])) ?_))
  refine Ev.bind (Small_to (S_L lp) (by omega) (by omega) (by omega) (n := V a * V b * 2) (by rw [V_L]; rfl)) (Ev.bind (Add_to (S_L lab) (S_L lp2) (by omega) (n := (V a + V b) * (V a + V b)) (by rw [V_L, V_L, sq_sum])) ?_)
  refine Ev.bind (keep_to (S_L lss) (by omega) rfl) (Ev.ifp rfl ?_)
  obtain ⟨c, hc⟩ : ∃ c, cmpI (V a) (V b) = c := ⟨_, rfl⟩
  have rc := cmpI_range (V a) (V b)
  rw [hc] at rc
  refine Ev.bind (Cmp_to sa sb (by omega) hc) ?_
  by_cases h : V a < V b
  · exact Ev.ifp (by omega) (Ev.bind wakes2 (Ev.now _))
  refine Ev.ifn (by omega) ?_
  have ld : V a - V b < Bp 40 := lt_le sa.v (Nat.sub_le _ _)
  refine Ev.bind (Sub_to sa sb (by omega) (n := V a - V b) (by omega)) (Ev.bind (Mul_to sa sa (by omega) rfl) (Ev.bind (Mul_to sb sb (by omega) rfl) ?_))
  refine Ev.bind (Sub_to (S_L laa) (S_L lbb) (by omega) (n := (V a + V b) * (V a - V b)) (by rw [V_L, V_L]; exact sq_diff (by omega))) (Ev.ifp rfl (Ev.ifp rfl ?_))
  refine Ev.bind (Mul_to (S_L ls) (S_L ld) (by omega) (n := (V a + V b) * (V a - V b)) (by rw [V_L, V_L])) ?_
  exact Ev.bind (keep_to (m := 81) (S_L (lt_mul ls ld (by omega))) (by omega) rfl) (Ev.ifp rfl (Ev.bind wakes2 (Ev.now _)))
end Go.Proofs.Ytpflhfblgfnciaa.Pure
