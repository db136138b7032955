/- How often any number of at most 60 limbs is in any other one, and what is left; by one limb; their greatest divisor in common: what the reference says. -/
import Derived.Test.YtijjnjdfdoaafaaLibW3
import Derived.Test.YtijjnjdfdoaafaaLibG
import Derived.Test.YtijjnjdfdoaafaaLibO
import Derived.Test.YtijjnjdfdoaafaaPxlawQuoTells
set_option linter.unusedVariables false
set_option linter.unusedSimpArgs false
namespace Go.Proofs.Ytijjnjdfdoaafaa.Pure
open Go.RowKit Go.Proofs.Ytijjnjdfdoaafaa.P Go.Proofs.YtijjnjdfdoaafaaW.PrintWords Go.Proofs.YtijjnjdfdoaafaaW.PrintMore Go.Proofs.Ytijjnjdfdoaafaa.Lib
theorem gcd_lt {x y B : Nat} (hx : x < B) (hy : y < B) : Nat.gcd x y < B := by
  by_cases h : x = 0
  · rw [h, Nat.gcd_zero_left]; exact hy
  · exact Nat.lt_of_le_of_lt (Nat.gcd_le_left _ (by omega)) hx
theorem QuoTells : steelyardlaw03_QuoTells.Pure := by
  intro a b v _ _ ha _ _ hb hv
  apply Ev.rounds
  have bv := bounds_u32 hv
  have wk : Ev (fun k => steelyardlaw03_QuoTells.j0 k a b v true) true := Ev.succ (by simp only [steelyardlaw03_QuoTells.j0]; exact Ev.ifp trivial (Ev.bind wakes3 (Ev.now _)))
  unfold steelyardlaw03_QuoTells.f
  by_cases h1 : (a.length : Int) > 60
  · exact Ev.ifp h1 wk
  refine Ev.ifn h1 ?_
  by_cases h2 : (b.length : Int) > 60
  · rw [decide_eq_true h2]; exact wk
  rw [decide_eq_false h2]
  have sa : S 60 a := S_of (wf_u32 ha) h1
  have sb : S 60 b := S_of (wf_u32 hb) h2
  have la := sa.2
  have lb := sb.2
  have sv : S 1 [v] := S_one (by omega) (by omega) (by omega)
  have hV : V [v] = v.toNat := by rw [V_cons, V_nil]; omega
  have main : ∀ (Q R : List Int) (ok : Bool) (s : List Int) (t : Nat) (is : Bool) (HQ HR : List Int), S 60 Q → S 60 R → S 60 s → Ev (fun k => steelyardlaw03_QuoTells.j1 k a b a b Q R ok s (t : Int) is (t : Int) Q R ok s HR is) true := by
    intro Q R ok s t is HQ HR sQ sR ss
    refine Ev.succ ?_
    simp only [steelyardlaw03_QuoTells.j1]
    refine Ev.bind (keep_to sQ (by omega) rfl) (Ev.ifp rfl (Ev.bind (keep_to sR (by omega) rfl) (Ev.ifp rfl (Ev.ifp (by simp) (Ev.bind (keep_to ss (by omega) rfl) (Ev.ifp rfl (Ev.ifp trivial (Ev.ifp (by simp) ?_))))))))
    refine Ev.bind (Gcd_to sa sb (by omega) rfl) (Ev.bind (rGcd_to sa sb (by omega) rfl) (Ev.bind (keep_to (S_L (gcd_lt sa.v sb.v)) (by omega) rfl) (Ev.ifp rfl ?_)))
    exact Ev.bind (keep_to sa (by omega) rfl) (Ev.ifp rfl (Ev.bind (keep_to sb (by omega) rfl) (Ev.ifp rfl (Ev.bind wakes3 (Ev.now _)))))
  refine Ev.succ ?_
  simp only [steelyardlaw03_QuoTells.j0, OwnNat_spec (show a.length ≤ 1000000 by omega), OwnNat_spec (show b.length ≤ 1000000 by omega), Option.bind_some]
  refine Ev.ifn (by decide) ?_
  have rest : ∀ (Q R : List Int) (ok : Bool), S 60 Q → S 60 R → Ev (fun k => (quo_Small.f k a v).bind fun bt483 => ((steelyardref03_Rem.f k a ([v] : List Int)).bind fun bt491 => (if (bt491.2.1.length : Int) > 0 then (if 0 < (bt491.2.1.length : Int) then (steelyardlaw03_QuoTells.j1 k a b a b Q R ok bt483.1 bt483.2.1 bt483.2.2 (rd bt491.2.1 0) Q R ok bt491.1 bt491.2.1 bt491.2.2) else (none)) else (steelyardlaw03_QuoTells.j1 k a b a b Q R ok bt483.1 bt483.2.1 bt483.2.2 0 Q R ok bt491.1 bt491.2.1 bt491.2.2)))) true := by
    intro Q R ok sQ sR
    by_cases h0 : v = 0
    · refine Ev.bind (QSmall_no v h0) (Ev.bind (rRem_no sv (by omega) (by rw [hV, h0]; rfl)) (Ev.ifn (by decide) ?_))
      exact main Q R ok [] 0 false [] [] sQ sR S_nil
    · have hv0 : 0 < v.toNat := by omega
      have hr := Nat.mod_lt (V a) hv0
      obtain ⟨r, er⟩ : ∃ r, V a % v.toNat = r := ⟨_, rfl⟩
      rw [er] at hr
      have sq : S 60 (L (V a / v.toNat)) := S_L (lt_le sa.v (Nat.div_le_self _ _))
      refine Ev.bind (QSmall_to sa (by omega) (by omega) (by omega) rfl er) (Ev.bind (rRem_to sa sv (by omega) (by omega) (by rw [hV]; omega) (q := V a / v.toNat) (r := r) (by rw [hV]) (by rw [hV]; exact er)) ?_)
      by_cases r0 : r = 0
      · subst r0
        refine Ev.ifn (show ¬ (((L 0).length : Nat) : Int) > 0 by rw [L_zero]; decide) ?_
        exact main Q R ok _ 0 true [] _ sQ sR sq
      · rw [L_one r0 (by omega)]
        refine Ev.ifp (show (([(r : Int)].length : Nat) : Int) > 0 by simp) (Ev.ifp (show 0 < (([(r : Int)].length : Nat) : Int) by simp) ?_)
        exact main Q R ok _ r true [] _ sQ sR sq
  by_cases hb0 : V b = 0
  · exact Ev.bind (Rem_no sb (by omega) hb0) (Ev.bind (rRem_no sb (by omega) hb0) (rest [] [] false S_nil S_nil))
  · have hlt : V a % V b < V b := Nat.mod_lt _ (by omega)
    exact Ev.bind (Rem_to sa sb (by omega) (by omega) hb0 rfl rfl) (Ev.bind (rRem_to sa sb (by omega) (by omega) hb0 rfl rfl) (rest _ _ true (S_L (lt_le sa.v (Nat.div_le_self _ _))) (S_L (Nat.lt_trans hlt sb.v))))
end Go.Proofs.Ytijjnjdfdoaafaa.Pure
