/- A product has as many bits as both together, or one fewer; moved down it loses just the lowest. -/
import Derived.Test.YthcnnkajnmnloaaLibM
import Derived.Test.YthcnnkajnmnloaaPxlawMulBits
set_option linter.unusedVariables false
set_option linter.unusedSimpArgs false
namespace Go.Proofs.Ythcnnkajnmnloaa.Pure
open Go.RowKit Go.Proofs.Ythcnnkajnmnloaa.P Go.Proofs.YthcnnkajnmnloaaW.PrintWords Go.Proofs.YthcnnkajnmnloaaW.PrintMore Go.Proofs.Ythcnnkajnmnloaa.Lib
theorem bl_mul {x y : Nat} (hx : x ≠ 0) (hy : y ≠ 0) : bl (x * y) = bl x + bl y ∨ bl (x * y) = bl x + bl y - 1 := by
  have hxy : x * y ≠ 0 := Nat.mul_ne_zero hx hy
  have h1 : bl (x * y) ≤ bl x + bl y := bl_le_iff.2 (by rw [Nat.pow_add]; exact Nat.mul_lt_mul'' (bl_lt x) (bl_lt y))
  have px := bl_pos hx
  have py := bl_pos hy
  have h2 : ¬ bl (x * y) ≤ bl x + bl y - 2 := fun h => by
    have := bl_le_iff.1 h
    have h3 := Nat.mul_le_mul (bl_le hx) (bl_le hy)
    rw [← Nat.pow_add, show bl x - 1 + (bl y - 1) = bl x + bl y - 2 by omega] at h3
    omega
  omega
theorem bl_down (x k : Nat) : bl (x / 2 ^ k) = bl x - k := by
  by_cases h : x / 2 ^ k = 0
  · rw [h, bl_zero]
    have : x < 2 ^ k := by
      rcases Nat.lt_or_ge x (2 ^ k) with h1 | h1
      · exact h1
      · have := Nat.div_pos h1 (Nat.two_pow_pos k)
        omega
    have := bl_le_iff.2 this
    omega
  · have := bl_shift h
    omega
theorem MulBits : steelyardlaw02_MulBits.Pure := by
  intro a b n _ _ ha _ _ hb hn
  apply Ev.rounds
  have bn := bounds_u8 hn
  have wk : Ev (fun k => steelyardlaw02_MulBits.j0 k a b n true) true := Ev.succ (by simp only [steelyardlaw02_MulBits.j0]; exact Ev.ifp trivial (Ev.bind wakes2 (Ev.now _)))
  unfold steelyardlaw02_MulBits.f
  by_cases h1 : (a.length : Int) > 60
  · exact Ev.ifp h1 wk
  refine Ev.ifn h1 ?_
  by_cases h2 : (b.length : Int) > 60
  · rw [decide_eq_true h2]; exact wk
  rw [decide_eq_false h2]
  have sa : S 60 a := S_of (wf_u32 ha) h1
  have sb : S 60 b := S_of (wf_u32 hb) h2
  have sp : S 120 (L (V a * V b)) := S_L (lt_mul sa.v sb.v (by omega))
  have ba := bl_S sa
  have bb := bl_S sb
  refine Ev.succ ?_
  simp only [steelyardlaw02_MulBits.j0]
  refine Ev.ifn (by decide) (Ev.bind (Bits_to sa (by omega) rfl) (Ev.bind (Bits_to sb (by omega) rfl) (Ev.bind (Mul_to sa sb (by omega) rfl) (Ev.bind (Bits_to sp (by omega) (V_L _)) ?_))))
  have zero : V a * V b = 0 → Ev (fun k => steelyardlaw02_MulBits.j1 k a n ((bl (V a) : Nat) : Int) ((bl (V b) : Nat) : Int) ((bl (V a * V b) : Nat) : Int) true) true := fun h => by
    refine Ev.succ ?_
    simp only [steelyardlaw02_MulBits.j1]
    rw [h, bl_zero]
    exact Ev.ifp trivial (Ev.ifp rfl (Ev.bind wakes2 (Ev.now _)))
  by_cases ha0 : V a = 0
  · refine Ev.ifp (by rw [ha0]; rfl) (zero (by rw [ha0, Nat.zero_mul]))
  have pa := bl_pos ha0
  refine Ev.ifn (by omega) ?_
  by_cases hb0 : V b = 0
  · rw [show (((bl (V b) : Nat) : Int) == 0) = true from by rw [hb0]; rfl]
    exact zero (by rw [hb0, Nat.mul_zero])
  have pb := bl_pos hb0
  rw [beq_eq_false_iff_ne.2 (show ((bl (V b) : Nat) : Int) ≠ 0 by omega)]
  have j2 : Ev (fun k => steelyardlaw02_MulBits.j2 k a n ((bl (V a) : Nat) : Int) false) true := by
    refine Ev.succ ?_
    simp only [steelyardlaw02_MulBits.j2]
    rw [w64 (x := n) (by omega) (by omega), Int.tmod_eq_emod_of_nonneg (a := n) (by omega)]
    obtain ⟨k, hk⟩ := Int.eq_ofNat_of_zero_le (show 0 ≤ n % 100 by omega)
    rw [hk, w64 (x := -(k : Int)) (by omega) (by omega)]
    have sd : S 60 (L (V a / 2 ^ k)) := S_L (lt_le sa.v (Nat.div_le_self _ _))
    refine Ev.ifn (by decide) (Ev.bind (Shift_to sa (by omega) (by omega) (by omega) (shf_down' _ _ (by omega))) ?_)
    have key : ∀ d i : Nat, 40 = i + d → Ev (fun q => steelyardlaw02_MulBits.l0 q a ((bl (V a) : Nat) : Int) (k : Int) (L (V a / 2 ^ k)) (i : Int)) true := by
      intro d
      induction d with
      | zero =>
        intro i hi
        refine Ev.succ ?_
        simp only [steelyardlaw02_MulBits.l0]
        refine Ev.ifn (by omega) (Ev.bind (Bits_to sd (by omega) (V_L _)) (Ev.ifp ?_ (Ev.bind wakes2 (Ev.now _))))
        rw [bl_down, w64 (by omega) (by omega)]
        unfold mx
        split <;> omega
      | succ d ih =>
        intro i hi
        refine Ev.succ ?_
        simp only [steelyardlaw02_MulBits.l0]
        rw [Bit_to sd (by omega) (V_L _) i (by omega), ← Int.natCast_add, w64 (x := ((i + k : Nat) : Int)) (by omega) (by omega), Bit_to sa (by omega) rfl (i + k) (by omega), Nat.testBit_div_two_pow, w64_succ (by omega)]
        simp only [Option.bind_some]
        exact Ev.ifp (by omega) (Ev.ifn (by simp) (ih (i + 1) (by omega)))
    exact key 40 0 (by omega)
  refine Ev.succ ?_
  simp only [steelyardlaw02_MulBits.j1]
  refine Ev.ifn (by decide) ?_
  rw [w64 (x := ((bl (V a) : Nat) : Int) + ((bl (V b) : Nat) : Int)) (by omega) (by omega), w64 (x := ((bl (V a) : Nat) : Int) + ((bl (V b) : Nat) : Int) - 1) (by omega) (by omega)]
  rcases bl_mul ha0 hb0 with h | h
  · exact Ev.ifp (by omega) j2
  · refine Ev.ifn (by omega) ?_
    rw [show ((((bl (V a * V b) : Nat) : Int) != ((bl (V a) : Nat) : Int) + ((bl (V b) : Nat) : Int) - 1)) = false from bne_eq_false_iff_eq.2 (by omega)]
    exact j2
end Go.Proofs.Ythcnnkajnmnloaa.Pure
