/- Of two numbers one is greater, or they are one: both ways; of three on; a number is as great as its bits say. -/
import Derived.Test.YthcnnkajnmnloaaLibW1
import Derived.Test.YthcnnkajnmnloaaPxlawNatOrder
set_option linter.unusedVariables false
set_option linter.unusedSimpArgs false
namespace Go.Proofs.Ythcnnkajnmnloaa.Pure
open Go.RowKit Go.Proofs.Ythcnnkajnmnloaa.P Go.Proofs.YthcnnkajnmnloaaW.PrintWords Go.Proofs.YthcnnkajnmnloaaW.PrintMore Go.Proofs.Ythcnnkajnmnloaa.Lib
theorem testBit_top {n : Nat} (h : n ≠ 0) : n.testBit (bl n - 1) = true := by
  have h1 := bl_le h
  have h2 := bl_lt n
  have h3 := bl_pos h
  rw [show bl n = bl n - 1 + 1 by omega, Nat.pow_succ] at h2
  rw [Nat.testBit_eq_decide_div_mod_eq]
  have : n / 2 ^ (bl n - 1) = 1 := Nat.div_eq_of_lt_le (by omega) (by omega)
  rw [this]
  rfl
theorem testBit_above (n : Nat) : n.testBit (bl n) = false := Nat.testBit_lt_two_pow (bl_lt n)
theorem bl_le_of {m n : Nat} (h : m ≤ n) : bl m ≤ bl n := bl_le_iff.2 (Nat.lt_of_le_of_lt h (bl_lt n))
theorem NatOrder : steelyardlaw01_NatOrder.Pure := by
  intro a b c _ _ ha _ _ hb _ _ hc
  apply Ev.rounds
  have wk : Ev (fun k => steelyardlaw01_NatOrder.j0 k a b c true) true := Ev.succ (by simp only [steelyardlaw01_NatOrder.j0]; exact Ev.ifp trivial (Ev.bind wakes1 (Ev.now _)))
  unfold steelyardlaw01_NatOrder.f
  simp only [long_spec, Option.bind_some]
  by_cases h1 : (a.length : Int) > 300
  · exact Ev.ifp (decide_eq_true h1) wk
  refine Ev.ifn (by simpa using h1) ?_
  by_cases h2 : (b.length : Int) > 300
  · exact Ev.ifp (decide_eq_true h2) wk
  refine Ev.ifn (by simpa using h2) ?_
  by_cases h3 : (c.length : Int) > 300
  · rw [decide_eq_true h3]; exact wk
  rw [decide_eq_false h3]
  have sa : S 300 a := S_of (wf_u32 ha) h1
  have sb : S 300 b := S_of (wf_u32 hb) h2
  have sc : S 300 c := S_of (wf_u32 hc) h3
  have sA : S 300 (L (V a)) := S_L sa.v
  obtain ⟨x, hx⟩ : ∃ x, cmpI (V a) (V b) = x := ⟨_, rfl⟩
  obtain ⟨y, hy⟩ : ∃ y, cmpI (V b) (V c) = y := ⟨_, rfl⟩
  obtain ⟨z, hz⟩ : ∃ z, cmpI (V a) (V c) = z := ⟨_, rfl⟩
  have rx := cmpI_range (V a) (V b)
  have ry := cmpI_range (V b) (V c)
  have rz := cmpI_range (V a) (V c)
  have rw' := cmpI_range (V b) (V a)
  rw [hx] at rx
  rw [hy] at ry
  rw [hz] at rz
  have hba : cmpI (V b) (V a) = -x := by omega
  have bits_a := Bits_to sa (by omega) rfl
  have bits_b := Bits_to sb (by omega) rfl
  have hbl := bl_S sa
  have j2 : Ev (fun k => steelyardlaw01_NatOrder.j2 k a b x false) true := by
    refine Ev.succ ?_
    simp only [steelyardlaw01_NatOrder.j2]
    refine Ev.ifn (by decide) (Ev.bind bits_a (Ev.bind bits_b ?_))
    by_cases h : bl (V b) ≤ bl (V a)
    · exact Ev.ifp (by omega) (Ev.bind wakes1 (Ev.now _))
    · refine Ev.ifn (by omega) (Ev.ifp ?_ (Ev.bind wakes1 (Ev.now _)))
      have : ¬ V b ≤ V a := fun h' => h (bl_le_of h')
      omega
  have j1 : Ev (fun k => steelyardlaw01_NatOrder.j1 k a b x false) true := by
    refine Ev.succ ?_
    simp only [steelyardlaw01_NatOrder.j1]
    refine Ev.ifn (by decide) (Ev.bind bits_a ?_)
    by_cases h0 : V a = 0
    · rw [h0, bl_zero]
      refine Ev.ifn (by omega) ?_
      rw [Bit_to sa (by omega) h0 0 (by omega)]
      simp only [Option.bind_some]
      refine Ev.ifn (by simp) (Ev.bind (Trim_to sa (by omega) h0) ?_)
      rw [L_zero]
      exact j2
    · have hp := bl_pos h0
      refine Ev.ifp (by omega) ?_
      rw [w64_pred hp (by omega), Bit_to sa (by omega) rfl _ (by omega), testBit_top h0, Bit_to sa (by omega) rfl _ (by omega), testBit_above]
      simp only [Option.bind_some]
      refine Ev.ifp trivial (Ev.ifn (by decide) (Ev.bind (Trim_to sa (by omega) rfl) ?_))
      have hl : (L (V a)).length ≠ 0 := fun e => h0 (L_len_zero.1 e)
      have e1 : (((bl (V a) : Nat) : Int) == 0) = false := beq_eq_false_iff_ne.2 (by omega)
      have e2 : (((L (V a)).length : Int) == 0) = false := beq_eq_false_iff_ne.2 (by omega)
      rw [e1, e2]
      exact j2
  have tail : Ev (fun k => (nat_Trim.f k a).bind fun t => (nat_Trim.f k b).bind fun t' => (steelyardkeep_Nat.f k t t').bind fun t'' => steelyardlaw01_NatOrder.j1 k a b x ((x == 0) != t'')) true := by
    refine Ev.bind (Trim_to sa (by omega) rfl) (Ev.bind (Trim_to sb (by omega) rfl) (Ev.bind (keep_iff sA (by omega) (q := x = 0) ?_) ?_))
    · rw [L_inj_iff]
      omega
    · have : ((x == 0) != decide (x = 0)) = false := by
        by_cases h : x = 0
        · subst h; rfl
        · rw [decide_eq_false h, beq_eq_false_iff_ne.2 h]; rfl
      rw [this]
      exact j1
  refine Ev.succ ?_
  simp only [steelyardlaw01_NatOrder.j0]
  refine Ev.ifn (by decide) ?_
  refine Ev.bind (Cmp_to sa sb (by omega) hx) (Ev.bind (Cmp_to sb sc (by omega) hy) (Ev.bind (Cmp_to sa sc (by omega) hz) ?_))
  refine Ev.ifn (by omega) (Ev.ifn (by omega) (Ev.bind (Cmp_to sb sa (by omega) hba) (Ev.ifp (by rw [w64 (by omega) (by omega)]) ?_)))
  by_cases c1 : x ≤ 0
  · refine Ev.ifp c1 ?_
    by_cases c2 : y ≤ 0
    · refine Ev.ifp c2 (Ev.ifn (by omega) ?_)
      by_cases c3 : x = 0
      · exact Ev.ifp c3 (Ev.ifp (by omega) tail)
      · exact Ev.ifn c3 tail
    · refine Ev.ifn c2 ?_
      by_cases c3 : x = 0
      · exact Ev.ifp c3 (Ev.ifp (by omega) tail)
      · exact Ev.ifn c3 tail
  · refine Ev.ifn c1 ?_
    by_cases c3 : x = 0
    · exact Ev.ifp c3 (Ev.ifp (by omega) tail)
    · exact Ev.ifn c3 tail
end Go.Proofs.Ythcnnkajnmnloaa.Pure
