/- By one limb it is as by a number of one limb; by 2 to the n as moved down. -/
import Derived.Test.YtijjnjdfdoaafaaLibW3
import Derived.Test.YtijjnjdfdoaafaaPxlawQuoSmall
set_option linter.unusedVariables false
set_option linter.unusedSimpArgs false
namespace Go.Proofs.Ytijjnjdfdoaafaa.Pure
open Go.RowKit Go.Proofs.Ytijjnjdfdoaafaa.P Go.Proofs.YtijjnjdfdoaafaaW.PrintWords Go.Proofs.YtijjnjdfdoaafaaW.PrintMore Go.Proofs.Ytijjnjdfdoaafaa.Lib
theorem QuoSmall : steelyardlaw03_QuoSmall.Pure := by
  intro a v n _ _ ha hv hn
  apply Ev.rounds
  have bv := bounds_u32 hv
  have bn := bounds_u8 hn
  unfold steelyardlaw03_QuoSmall.f
  by_cases h1 : (a.length : Int) > 60
  · exact Ev.ifp h1 (Ev.bind wakes3 (Ev.now _))
  have sa : S 60 a := S_of (wf_u32 ha) h1
  obtain ⟨k, hk⟩ := Int.eq_ofNat_of_zero_le (show 0 ≤ n % 90 by omega)
  have k90 : k < 90 := by omega
  have h2k : 2 ^ k < Bp 3 := two_lt (by omega)
  have lq : V a / 2 ^ k < Bp 60 := lt_le sa.v (Nat.div_le_self _ _)
  have j0 : Ev (fun q => steelyardlaw03_QuoSmall.j0 q a n false) true := by
    refine Ev.succ ?_
    simp only [steelyardlaw03_QuoSmall.j0]
    rw [w64 (x := n) (by omega) (by omega), Int.tmod_eq_emod_of_nonneg (a := n) (by omega), hk, w64 (x := -(k : Int)) (by omega) (by omega)]
    refine Ev.ifn (by decide) (Ev.bind (Of_to (by omega) (by omega) (n := 1) rfl) ?_)
    refine Ev.bind (Shift_to (m := 1) (S_L (by decide)) (by omega) (by omega) (by omega) (n := 2 ^ k) (by rw [V_L, shf_up _ _ (by omega), Nat.one_mul])) ?_
    refine Ev.bind (Rem_to sa (S_L h2k) (by omega) (by omega) (by rw [V_L]; exact Nat.pos_iff_ne_zero.1 (Nat.two_pow_pos k)) (q := V a / 2 ^ k) (by rw [V_L]) rfl) (Ev.ifp rfl ?_)
    exact Ev.bind (Shift_to sa (by omega) (by omega) (by omega) (shf_down' _ _ (by omega))) (Ev.bind (keep_to (S_L lq) (by omega) rfl) (Ev.ifp rfl (Ev.bind wakes3 (Ev.now _))))
  rw [wu64 (x := v) (by omega) (by omega)]
  refine Ev.ifn h1 ?_
  by_cases h0 : v = 0
  · subst h0
    refine Ev.bind (QSmall_no 0 rfl) (Ev.bind (Of_to (by omega) (by omega) (n := 0) rfl) (Ev.bind (Rem_no (p := 0) (by rw [L_zero]; exact S_nil) (by omega) (by rw [V_L])) ?_))
    refine Ev.ifn (by decide) (Ev.ifn (by decide) (Ev.bind (keep_to (m := 0) S_nil (by omega) rfl) (Ev.ifp rfl ?_)))
    exact Ev.bind (Of_to (n := 0) (by decide) (by decide) rfl) (Ev.bind (keep_to (m := 0) (by rw [L_zero]; exact S_nil) (by omega) L_zero) (Ev.ifp rfl (Ev.ifn (by decide) j0)))
  · have hv0 : 0 < v.toNat := by omega
    have hr := Nat.mod_lt (V a) hv0
    have lv : v.toNat < Bp 1 := by rw [show Bp 1 = 4294967296 from rfl]; omega
    obtain ⟨r, er⟩ : ∃ r, V a % v.toNat = r := ⟨_, rfl⟩
    rw [er] at hr
    refine Ev.bind (QSmall_to sa (by omega) (by omega) (by omega) rfl er) (Ev.bind (Of_to (by omega) (by omega) rfl) ?_)
    refine Ev.bind (Rem_to sa (S_L lv) (by omega) (by omega) (by rw [V_L]; omega) (q := V a / v.toNat) (r := r) (by rw [V_L]) (by rw [V_L]; exact er)) ?_
    rw [wu64 (x := (r : Int)) (by omega) (by omega)]
    refine Ev.ifn (show ¬ (true != true) = true by decide) (Ev.ifn (by rw [bne_iff_ne.2 h0]; exact (show ¬ (true != true) = true by decide)) (Ev.bind (keep_to (S_L (lt_le sa.v (Nat.div_le_self _ _))) (by omega) rfl) (Ev.ifp rfl ?_)))
    refine Ev.bind (Of_to (by omega) (by omega) (n := r) (by omega)) (Ev.bind (keep_to (m := 1) (S_L (by rw [show Bp 1 = 4294967296 from rfl]; omega)) (by omega) rfl) (Ev.ifp rfl (Ev.ifp rfl ?_)))
    rw [decide_eq_false (show ¬ ((r : Int) ≥ v) by omega)]
    exact j0
end Go.Proofs.Ytijjnjdfdoaafaa.Pure
