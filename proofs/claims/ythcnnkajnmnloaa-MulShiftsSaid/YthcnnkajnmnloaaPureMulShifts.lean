/- Moved up by n bits a number is multiplied by 2 to the n, moved down again it is itself; powers by sums of exponents. -/
import Derived.Test.YthcnnkajnmnloaaLibM
import Derived.Test.YthcnnkajnmnloaaPxlawMulShifts
set_option linter.unusedVariables false
set_option linter.unusedSimpArgs false
namespace Go.Proofs.Ythcnnkajnmnloaa.Pure
open Go.RowKit Go.Proofs.Ythcnnkajnmnloaa.P Go.Proofs.YthcnnkajnmnloaaW.PrintWords Go.Proofs.YthcnnkajnmnloaaW.PrintMore Go.Proofs.Ythcnnkajnmnloaa.Lib
theorem MulShifts : steelyardlaw02_MulShifts.Pure := by
  intro a n m _ _ ha hn hm
  apply Ev.rounds
  have bn := bounds_u8 hn
  have bm := bounds_u8 hm
  unfold steelyardlaw02_MulShifts.f
  by_cases h1 : (a.length : Int) > 30
  · exact Ev.ifp h1 (Ev.bind wakes2 (Ev.now _))
  have sa : S 30 a := S_of (wf_u32 ha) h1
  rw [w64 (x := n) (by omega) (by omega), w64 (x := m) (by omega) (by omega), Int.tmod_eq_emod_of_nonneg (a := n) (by omega), Int.tmod_eq_emod_of_nonneg (a := m) (by omega)]
  obtain ⟨k, hk⟩ := Int.eq_ofNat_of_zero_le (show 0 ≤ n % 70 by omega)
  obtain ⟨j, hj⟩ := Int.eq_ofNat_of_zero_le (show 0 ≤ m % 9 by omega)
  rw [hk, hj]
  have k70 : k < 70 := by omega
  have j9 : j < 9 := by omega
  have h2k : 2 ^ k < Bp 3 := two_lt (by omega)
  have su : S 33 (L (V a * 2 ^ k)) := S_L (lt_mul sa.v h2k (by omega))
  refine Ev.ifn h1 ?_
  refine Ev.bind (Shift_to sa (by omega) (by omega) (by omega) (shf_up _ _ (by omega))) ?_
  refine Ev.bind (Of_to (by omega) (by omega) (n := 2) rfl) ?_
  refine Ev.bind (Pow_to (m := 1) (S_L (by decide)) (by omega) (by omega) (by omega) (n := 2 ^ k) (by rw [V_L, Int.toNat_natCast]) (lt_up h2k (by omega))) (Ev.ifp rfl ?_)
  refine Ev.bind (Mul_to sa (S_L h2k) (by omega) (n := V a * 2 ^ k) (by rw [V_L])) (Ev.bind (keep_to su (by omega) rfl) (Ev.ifp rfl ?_))
  rw [w64 (x := -(k : Int)) (by omega) (by omega)]
  refine Ev.bind (Shift_to su (by omega) (by omega) (by omega) (n := V a) (by rw [V_L, shf_down' _ _ (by omega)]; exact Nat.mul_div_cancel _ (Nat.two_pow_pos k))) ?_
  refine Ev.bind (Trim_to sa (by omega) rfl) (Ev.bind (keep_to (S_L sa.v) (by omega) rfl) ?_)
  refine Ev.succ ?_
  simp only [steelyardlaw02_MulShifts.j0]
  refine Ev.ifn (by decide) ?_
  by_cases h4 : (a.length : Int) > 4
  · exact Ev.ifp h4 (Ev.bind wakes2 (Ev.now _))
  have s4 : S 4 a := S_of (wf_u32 ha) h4
  refine Ev.ifn h4 ?_
  rw [Int.tmod_eq_emod_of_nonneg (a := (k : Int)) (by omega)]
  obtain ⟨i, hi⟩ := Int.eq_ofNat_of_zero_le (show 0 ≤ (k : Int) % 8 by omega)
  rw [hi, w64 (x := (i : Int) + (j : Int)) (by omega) (by omega), ← Int.natCast_add]
  have i8 : i < 8 := by omega
  have pw : ∀ q : Nat, V a ^ q < Bp (4 * q + 1) := by
    intro q
    induction q with
    | zero => exact one_lt_Bp (by omega)
    | succ q ih =>
      rw [Nat.pow_succ]
      exact lt_mul ih s4.v (by omega)
  refine Ev.bind (Pow_to s4 (by omega) (by omega) (by omega) (n := V a ^ i) (by rw [Int.toNat_natCast]) (lt_up (pw i) (by omega))) ?_
  refine Ev.bind (Pow_to s4 (by omega) (by omega) (by omega) (n := V a ^ j) (by rw [Int.toNat_natCast]) (lt_up (pw j) (by omega))) ?_
  refine Ev.bind (Pow_to s4 (by omega) (by omega) (by omega) (n := V a ^ (i + j)) (by rw [Int.toNat_natCast]) (lt_up (pw (i + j)) (by omega))) ?_
  refine Ev.ifp rfl (Ev.ifp rfl (Ev.ifp rfl ?_))
  refine Ev.bind (Mul_to (S_L (lt_up (pw i) (show 4 * i + 1 ≤ 100 by omega))) (S_L (lt_up (pw j) (show 4 * j + 1 ≤ 100 by omega))) (by omega) (n := V a ^ (i + j)) (by rw [V_L, V_L, Nat.pow_add])) ?_
  refine Ev.bind (keep_to (S_L (lt_up (pw (i + j)) (show 4 * (i + j) + 1 ≤ 100 by omega))) (by omega) rfl) (Ev.ifp rfl ?_)
  rw [show m % 4294967296 = m by omega, wu64 (x := m) (by omega) (by omega)]
  have hm1 : m.toNat < Bp 2 := lt_num (by omega) (by omega)
  refine Ev.bind (Small_to s4 (by omega) (by omega) (by omega) rfl) (Ev.bind (Of_to (by omega) (by omega) rfl) (Ev.bind (Mul_to s4 (S_L hm1) (by omega) (n := V a * m.toNat) (by rw [V_L])) ?_))
  exact Ev.bind (keep_to (S_L (lt_mul s4.v hm1 (Nat.le_refl _))) (by omega) rfl) (Ev.ifp rfl (Ev.bind wakes2 (Ev.now _)))
end Go.Proofs.Ythcnnkajnmnloaa.Pure
