/- Of a greater number the root is not less; of four times a number it is twice the root, or one more; moved by two bits by one. -/
import Derived.Test.YtijjnjdfdoaafaaLibW4
import Derived.Test.YtijjnjdfdoaafaaPxlawRootOrder
set_option linter.unusedVariables false
set_option linter.unusedSimpArgs false
namespace Go.Proofs.Ytijjnjdfdoaafaa.Pure
open Go.RowKit Go.Proofs.Ytijjnjdfdoaafaa.P Go.Proofs.YtijjnjdfdoaafaaW.PrintWords Go.Proofs.YtijjnjdfdoaafaaW.PrintMore Go.Proofs.Ytijjnjdfdoaafaa.Lib
theorem ct_mono {x y : Nat} (h : x ≤ y) : ct x ≤ ct y := by
  have h1 := rt_mono h
  have hx := rt_le x
  unfold ct
  by_cases c : rt x = rt y
  · rw [← c]
    by_cases d : rt x * rt x = y
    · rw [if_pos (by omega), if_pos d]; exact Nat.le_refl _
    · rw [if_neg d]; split <;> omega
  · split <;> split <;> omega
theorem rt_four (x : Nat) : rt (x * 4) = rt x * 2 ∨ rt (x * 4) = rt x * 2 + 1 := by
  have h1 := rt_le x
  have h2 := rt_lt x
  have e1 : rt x * 2 * (rt x * 2) = rt x * rt x * 4 := by rw [Nat.mul_mul_mul_comm]
  have e2 : (rt x * 2 + 2) * (rt x * 2 + 2) = (rt x + 1) * (rt x + 1) * 4 := by rw [show rt x * 2 + 2 = (rt x + 1) * 2 by omega, Nat.mul_mul_mul_comm]
  have h3 : rt x * 2 < rt (x * 4) + 1 := sq_lt (Nat.lt_of_le_of_lt (by rw [e1]; omega) (rt_lt (x * 4)))
  have h4 : rt (x * 4) < rt x * 2 + 2 := sq_lt (Nat.lt_of_le_of_lt (rt_le (x * 4)) (by rw [e2]; omega))
  omega
theorem RootOrder : steelyardlaw04_RootOrder.Pure := by
  intro a b n _ _ ha _ _ hb hn
  apply Ev.rounds
  have bn := bounds_u8 hn
  have wk : Ev (fun k => steelyardlaw04_RootOrder.j0 k a b n true) true := Ev.succ (by simp only [steelyardlaw04_RootOrder.j0]; exact Ev.ifp trivial (Ev.bind wakes4 (Ev.now _)))
  unfold steelyardlaw04_RootOrder.f
  by_cases h1 : (a.length : Int) > 40
  · exact Ev.ifp h1 wk
  refine Ev.ifn h1 ?_
  by_cases h2 : (b.length : Int) > 40
  · rw [decide_eq_true h2]; exact wk
  rw [decide_eq_false h2]
  have sa : S 40 a := S_of (wf_u32 ha) h1
  have sb : S 40 b := S_of (wf_u32 hb) h2
  obtain ⟨A, hA⟩ : ∃ A, V a = A := ⟨_, rfl⟩
  obtain ⟨B, hB⟩ : ∃ B, V b = B := ⟨_, rfl⟩
  have lA : A < Bp 40 := hA ▸ sa.v
  have lB : B < Bp 40 := hB ▸ sb.v
  have lx : rt A < Bp 40 := rt_Bp lA
  have lab : A + B < Bp 41 := lt_add lA lB (by omega)
  have l4 : A * 4 < Bp 41 := lt_mul lA (show 4 < Bp 1 by decide) (by omega)
  have lct : ∀ x, x < Bp 41 → ct x < Bp 42 := fun x hx => by
    unfold ct
    split
    · exact lt_up (rt_Bp hx) (by omega)
    · exact lt_add (rt_Bp hx) (one_lt_Bp (by omega)) (by omega)
  have m1 := rt_mono (show A ≤ A + B by omega)
  have m2 := ct_mono (show A ≤ A + B by omega)
  have r1 := cmpI_range (rt A) (rt (A + B))
  have r2 := cmpI_range (ct A) (ct (A + B))
  refine Ev.succ ?_
  simp only [steelyardlaw04_RootOrder.j0]
  refine Ev.ifn (by decide) (Ev.bind (Floor_to sa (by omega) hA) (Ev.bind (Add_to sa sb (by omega) (n := A + B) (by rw [hA, hB])) (Ev.bind (Floor_to (S_L lab) (by omega) (V_L _)) ?_)))
  refine Ev.bind (Small_to sa (by omega) (by omega) (by omega) (n := A * 4) (by rw [hA]; rfl)) (Ev.bind (Floor_to (S_L l4) (by omega) (V_L _)) ?_)
  refine Ev.bind (Cmp_to (m := 41) (S_L (lt_up lx (by omega))) (S_L (rt_Bp lab)) (by omega) (c := cmpI (rt A) (rt (A + B))) (by rw [V_L, V_L])) (Ev.ifn (by omega) ?_)
  refine Ev.bind (Ceil_to sa (by omega) hA) (Ev.bind (Add_to sa sb (by omega) (n := A + B) (by rw [hA, hB])) (Ev.bind (Ceil_to (S_L lab) (by omega) (V_L _)) ?_))
  refine Ev.bind (Cmp_to (m := 42) (S_L (lct _ (lt_up lA (by omega)))) (S_L (lct _ lab)) (by omega) (c := cmpI (ct A) (ct (A + B))) (by rw [V_L, V_L])) ?_
  rw [decide_eq_false (show ¬ cmpI (ct A) (ct (A + B)) > 0 by omega)]
  have j2 : Ev (fun k => steelyardlaw04_RootOrder.j2 k n (L (rt A)) false) true := by
    refine Ev.succ ?_
    simp only [steelyardlaw04_RootOrder.j2]
    obtain ⟨k, hk⟩ := Int.eq_ofNat_of_zero_le (show 0 ≤ n % 40 by omega)
    have k40 : k < 40 := by omega
    rw [w64 (x := n) (by omega) (by omega), Int.tmod_eq_emod_of_nonneg (a := n) (by omega), hk, show (2 : Int) * (k : Int) = ((2 * k : Nat) : Int) by omega, w64 (x := ((2 * k : Nat) : Int)) (by omega) (by omega)]
    have h2k : 2 ^ k < Bp 2 := two_lt (by omega)
    have lxk : rt A * 2 ^ k < Bp 42 := lt_mul lx h2k (by omega)
    have lxx : rt A * rt A < Bp 80 := lt_mul lx lx (by omega)
    have e : rt A * rt A * 2 ^ (2 * k) = rt A * 2 ^ k * (rt A * 2 ^ k) := by
      rw [Nat.two_mul, Nat.pow_add, Nat.mul_mul_mul_comm]
    refine Ev.ifn (by decide) (Ev.bind (Mul_to (S_L lx) (S_L lx) (by omega) (n := rt A * rt A) (by rw [V_L])) ?_)
    refine Ev.bind (Shift_to (S_L lxx) (by omega) (by omega) (by omega) (n := rt A * 2 ^ k * (rt A * 2 ^ k)) (by rw [V_L, shf_up _ _ (by omega), e])) ?_
    refine Ev.bind (Floor_to (m := 84) (S_L (lt_mul lxk lxk (by omega))) (by omega) (V_L _)) ?_
    rw [rt_sq]
    refine Ev.ifp (decide_eq_true rfl) (Ev.bind (Shift_to (S_L lx) (by omega) (by omega) (by omega) (n := rt A * 2 ^ k) (by rw [V_L, shf_up _ _ (by omega)])) ?_)
    exact Ev.bind (keep_to (S_L lxk) (by omega) rfl) (Ev.ifp rfl (Ev.bind wakes4 (Ev.now _)))
  refine Ev.succ ?_
  simp only [steelyardlaw04_RootOrder.j1]
  have l2 : rt A * 2 < Bp 41 := lt_mul lx (show 2 < Bp 1 by decide) (by omega)
  have l21 : rt A * 2 + 1 < Bp 42 := lt_add l2 (one_lt_Bp (by omega)) (by omega)
  refine Ev.ifn (by decide) (Ev.bind (Small_to (S_L lx) (by omega) (by omega) (by omega) (n := rt A * 2) (by rw [V_L]; rfl)) ?_)
  refine Ev.bind (keep_iff (m := 42) (S_L (lt_up (rt_Bp l4) (by omega))) (by omega) L_iff) ?_
  rcases rt_four A with h | h
  · exact Ev.ifp (decide_eq_true h) j2
  · refine Ev.ifn (by rw [decide_eq_false (by omega)]; exact Bool.false_ne_true) (Ev.bind (Of_to (by omega) (by omega) (n := 1) rfl) ?_)
    refine Ev.bind (Add_to (S_L l2) (S_L (one_lt_Bp (by omega))) (by omega) (n := rt A * 2 + 1) (by rw [V_L, V_L])) ?_
    exact Ev.bind (keep_to (m := 42) (S_L (lt_up (rt_Bp l4) (by omega))) (by omega) (by rw [h])) j2
end Go.Proofs.Ytijjnjdfdoaafaa.Pure
