/- The greatest divisor divides both; both divided by it have none but 1; a common factor is a factor of it. -/
import Derived.Test.YtijjnjdfdoaafaaLibW3
import Derived.Test.YtijjnjdfdoaafaaPxlawQuoGcds
set_option linter.unusedVariables false
set_option linter.unusedSimpArgs false
namespace Go.Proofs.Ytijjnjdfdoaafaa.Pure
open Go.RowKit Go.Proofs.Ytijjnjdfdoaafaa.P Go.Proofs.YtijjnjdfdoaafaaW.PrintWords Go.Proofs.YtijjnjdfdoaafaaW.PrintMore Go.Proofs.Ytijjnjdfdoaafaa.Lib
theorem gcd_lt {x y B : Nat} (hx : x < B) (hy : y < B) : Nat.gcd x y < B := by
  by_cases h : x = 0
  · rw [h, Nat.gcd_zero_left]; exact hy
  · exact Nat.lt_of_le_of_lt (Nat.gcd_le_left _ (by omega)) hx
theorem QuoGcds : steelyardlaw03_QuoGcds.Pure := by
  intro a b c _ _ ha _ _ hb _ _ hc
  apply Ev.rounds
  have wk : Ev (fun k => steelyardlaw03_QuoGcds.j0 k a b c true) true := Ev.succ (by simp only [steelyardlaw03_QuoGcds.j0]; exact Ev.ifp trivial (Ev.bind wakes3 (Ev.now _)))
  unfold steelyardlaw03_QuoGcds.f
  by_cases h1 : (a.length : Int) > 25
  · exact Ev.ifp h1 wk
  refine Ev.ifn h1 ?_
  by_cases h2 : (b.length : Int) > 25
  · exact Ev.ifp h2 wk
  refine Ev.ifn h2 ?_
  by_cases h3 : (c.length : Int) > 10
  · rw [decide_eq_true h3]; exact wk
  rw [decide_eq_false h3]
  have sa : S 25 a := S_of (wf_u32 ha) h1
  have sb : S 25 b := S_of (wf_u32 hb) h2
  have sc : S 10 c := S_of (wf_u32 hc) h3
  obtain ⟨g, hg⟩ : ∃ g, Nat.gcd (V a) (V b) = g := ⟨_, rfl⟩
  have lg : g < Bp 25 := hg ▸ gcd_lt sa.v sb.v
  refine Ev.succ ?_
  simp only [steelyardlaw03_QuoGcds.j0]
  refine Ev.ifn (by decide) (Ev.bind (Gcd_to sa sb (by omega) hg) (Ev.bind (Gcd_to sb sa (by omega) (n := g) (by rw [Nat.gcd_comm]; exact hg)) (Ev.bind (keep_to (S_L lg) (by omega) rfl) (Ev.ifp rfl (Ev.bind (Bits_to sa (by omega) rfl) ?_)))))
  have j1f : g ≠ 0 → Ev (fun k => steelyardlaw03_QuoGcds.j1 k a b c (L g) false) true := by
    intro g0
    refine Ev.succ ?_
    simp only [steelyardlaw03_QuoGcds.j1]
    have d1 : V a % g = 0 := Nat.mod_eq_zero_of_dvd (hg ▸ Nat.gcd_dvd_left _ _)
    have d2 : V b % g = 0 := Nat.mod_eq_zero_of_dvd (hg ▸ Nat.gcd_dvd_right _ _)
    have lx : V a / g < Bp 25 := lt_le sa.v (Nat.div_le_self _ _)
    have ly : V b / g < Bp 25 := lt_le sb.v (Nat.div_le_self _ _)
    have hco : Nat.gcd (V a / g) (V b / g) = 1 := by
      rw [Nat.gcd_div (hg ▸ Nat.gcd_dvd_left _ _) (hg ▸ Nat.gcd_dvd_right _ _), hg]; exact Nat.div_self (by omega)
    refine Ev.ifn (by decide) (Ev.bind (Rem_to sa (S_L lg) (by omega) (by omega) (by rw [V_L]; exact g0) (q := V a / g) (r := 0) (by rw [V_L]) (by rw [V_L]; exact d1)) ?_)
    refine Ev.bind (Rem_to sb (S_L lg) (by omega) (by omega) (by rw [V_L]; exact g0) (q := V b / g) (r := 0) (by rw [V_L]) (by rw [V_L]; exact d2)) ?_
    refine Ev.ifp rfl (Ev.ifp rfl (Ev.ifp (L_len_eq.2 rfl) (Ev.ifp (L_len_eq.2 rfl) ?_)))
    refine Ev.bind (Gcd_to (S_L lx) (S_L ly) (by omega) (n := 1) (by rw [V_L, V_L]; exact hco)) (Ev.bind (Of_to (by omega) (by omega) (n := 1) rfl) (Ev.bind (keep_to (m := 1) (S_L (by decide)) (by omega) rfl) ?_))
    refine Ev.succ ?_
    simp only [steelyardlaw03_QuoGcds.j2]
    have lac : V a * V c < Bp 35 := lt_mul sa.v sc.v (by omega)
    have lbc : V b * V c < Bp 35 := lt_mul sb.v sc.v (by omega)
    refine Ev.ifn (by decide) (Ev.bind (Mul_to sa sc (by omega) rfl) (Ev.bind (Mul_to sb sc (by omega) rfl) ?_))
    refine Ev.bind (Gcd_to (S_L lac) (S_L lbc) (by omega) (n := g * V c) (by rw [V_L, V_L, Nat.gcd_mul_right, hg])) ?_
    refine Ev.bind (Mul_to (S_L lg) sc (by omega) (n := g * V c) (by rw [V_L])) ?_
    exact Ev.bind (keep_to (S_L (lt_mul lg sc.v (Nat.le_refl _))) (by omega) rfl) (Ev.ifp rfl (Ev.bind wakes3 (Ev.now _)))
  by_cases ha0 : V a = 0
  · refine Ev.ifp (bl_iff.2 ha0) (Ev.bind (Bits_to sb (by omega) rfl) ?_)
    by_cases hb0 : V b = 0
    · rw [beq_iff_eq.2 (bl_iff.2 hb0)]
      refine Ev.succ ?_
      simp only [steelyardlaw03_QuoGcds.j1]
      exact Ev.ifp trivial (Ev.ifp (L_len_eq.2 (by rw [← hg, ha0, hb0]; rfl)) (Ev.bind wakes3 (Ev.now _)))
    · rw [beq_eq_false_iff_ne.2 (fun h => hb0 (bl_iff.1 h))]
      exact j1f (by rw [← hg, ha0, Nat.gcd_zero_left]; exact hb0)
  · refine Ev.ifn (fun h => ha0 (bl_iff.1 h)) (j1f ?_)
    have := Nat.gcd_pos_of_pos_left (V b) (show 0 < V a by omega)
    omega
end Go.Proofs.Ytijjnjdfdoaafaa.Pure
