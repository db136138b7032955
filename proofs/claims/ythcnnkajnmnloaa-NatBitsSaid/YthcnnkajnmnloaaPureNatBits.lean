/- A number is the sum of 2 to the i of all its bits; a number moved up by a limb, and a limb, are both ones' limbs. -/
import Derived.Test.YthcnnkajnmnloaaLibW1
import Derived.Test.YthcnnkajnmnloaaPxlawNatBits
set_option linter.unusedVariables false
set_option linter.unusedSimpArgs false
namespace Go.Proofs.Ythcnnkajnmnloaa.Pure
open Go.RowKit Go.Proofs.Ythcnnkajnmnloaa.P Go.Proofs.YthcnnkajnmnloaaW.PrintWords Go.Proofs.YthcnnkajnmnloaaW.PrintMore Go.Proofs.Ythcnnkajnmnloaa.Lib
theorem mod_step (n i : Nat) : n % 2 ^ (i + 1) = n % 2 ^ i + (if n.testBit i then 2 ^ i else 0) := by
  rw [Nat.mod_pow_succ, Nat.testBit_eq_decide_div_mod_eq]
  by_cases h : n / 2 ^ i % 2 = 1
  · rw [h]; simp
  · rw [show n / 2 ^ i % 2 = 0 by omega]; simp
theorem NatBits : steelyardlaw01_NatBits.Pure := by
  intro a by_ _ _ ha hby
  apply Ev.rounds
  unfold steelyardlaw01_NatBits.f
  by_cases h1 : (a.length : Int) > 30
  · exact Ev.ifp h1 (Ev.bind wakes1 (Ev.now _))
  have sa : S 30 a := S_of (wf_u32 ha) h1
  have hb := bounds_u32 hby
  have hbl := bl_S sa
  refine Ev.ifn h1 (Ev.bind (Of_to (by omega) (by omega) (n := 1) rfl) (Ev.bind (Bits_to sa (by omega) rfl) ?_))
  have key : ∀ d i : Nat, bl (V a) = i + d → Ev (fun k => steelyardlaw01_NatBits.l0 k a by_ (L (V a % 2 ^ i)) (L (2 ^ i)) ((bl (V a) : Nat) : Int) (i : Int)) true := by
    intro d
    induction d with
    | zero =>
      intro i hi
      refine Ev.succ ?_
      simp only [steelyardlaw01_NatBits.l0, Option.bind_some]
      refine Ev.ifn (by omega) (Ev.bind (Trim_to sa (by omega) rfl) ?_)
      have e : V a % 2 ^ i = V a := Nat.mod_eq_of_lt (by rw [show i = bl (V a) by omega]; exact bl_lt _)
      rw [e]
      refine Ev.bind (keep_to (S_L sa.v) (by omega) rfl) (Ev.ifp rfl ?_)
      have w1 : S 31 ([0] ++ a) := ⟨by rw [W_app]; exact ⟨by rw [W_cons]; exact ⟨by omega, W_nil⟩, sa.1⟩, by have := sa.2; simp; omega⟩
      have w2 : S 31 ([by_] ++ a) := ⟨by rw [W_app]; exact ⟨by rw [W_cons]; exact ⟨by omega, W_nil⟩, sa.1⟩, by have := sa.2; simp; omega⟩
      have w3 : S 31 [by_] := ⟨by rw [W_cons]; exact ⟨by omega, W_nil⟩, by simp⟩
      have hl := sa.2
      refine Ev.ifp (by simp; omega) (Ev.bind (Add_to w1 w3 (by omega) (n := V ([by_] ++ a)) ?_) (Ev.ifp (by simp; omega) (Ev.bind (Trim_to w2 (by omega) rfl) (Ev.bind (keep_to (S_L w2.v) (by omega) rfl) (Ev.ifp rfl (Ev.bind wakes1 (Ev.now _)))))))
      show V (0 :: a) + V [by_] = V (by_ :: a)
      rw [V_cons, V_cons, V_cons, V_nil]
      omega
    | succ d ih =>
      intro i hi
      refine Ev.succ ?_
      simp only [steelyardlaw01_NatBits.l0]
      have s1 : S 31 (L (2 ^ i)) := S_L (two_lt (by omega))
      have hm : V a % 2 ^ i < Bp 31 := lt_le (two_lt (i := i) (by omega)) (Nat.le_of_lt (Nat.mod_lt _ (Nat.two_pow_pos i)))
      have e2 : V (L (2 ^ i)) + V (L (2 ^ i)) = 2 ^ (i + 1) := by rw [V_L, Nat.pow_succ]; omega
      rw [Bit_to sa (by omega) rfl i (by omega), w64_succ (by omega)]
      refine Ev.ifp (by omega) ?_
      simp only [Option.bind_some]
      have hstep := mod_step (V a) i
      by_cases hb : (V a).testBit i = true
      · rw [if_pos hb] at hstep
        have hn := ih (i + 1) (by omega)
        rw [hstep] at hn
        exact Ev.ifp hb (Ev.bind (Add_to (S_L hm) s1 (by omega) (by rw [V_L, V_L])) (Ev.bind (Add_to s1 s1 (by omega) e2) hn))
      · rw [if_neg hb, Nat.add_zero] at hstep
        have hn := ih (i + 1) (by omega)
        rw [hstep] at hn
        exact Ev.ifn hb (Ev.bind (Add_to s1 s1 (by omega) e2) hn)
  have := key (bl (V a)) 0 (by omega)
  rw [Nat.pow_zero, Nat.mod_one, L_zero] at this
  exact this
end Go.Proofs.Ythcnnkajnmnloaa.Pure
