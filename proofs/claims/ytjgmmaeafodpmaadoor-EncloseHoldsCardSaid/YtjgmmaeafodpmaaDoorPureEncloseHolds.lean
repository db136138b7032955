/- The square of a root's lower bound is not above the number, that of the upper one not below; they are one, or one in the last place apart. -/
import Derived.Test.YtjgmmaeafodpmaaDoorMm
import Derived.Test.YtjgmmaeafodpmaaDoorPxlawEncloseHolds
set_option linter.unusedVariables false
set_option linter.unusedSimpArgs false
namespace Go.Proofs.YtjgmmaeafodpmaaDoor.Pure
open Go.RowKit Go.Proofs.YtjgmmaeafodpmaaDoor.P Go.Proofs.YtjgmmaeafodpmaaDoorW.PrintWords Go.Proofs.YtjgmmaeafodpmaaDoorW.PrintMore Go.Proofs.YtjgmmaeafodpmaaDoor.Lib
theorem rNegQ_to {q : Rat} (h : Qs q) : Ev (fun n => steelyardref07_Neg.f n (cz q.num).1 (cz q.num).2 (L q.den)) ((cz (-q).num).1, (cz (-q).num).2, L (-q).den) := by
  unfold steelyardref07_Neg.f
  exact Ev.bind (rGood_yes h) (Ev.ifp rfl (Ev.bind (rNeg_to (Qs_a h) (by omega) (z := (-q).num) (by rw [vz_cz]; rfl)) (Ev.bind (rTrim_to (Qs_b h) (by omega) (V_L _)) (Ev.now _))))
theorem EncloseHolds : steelyardlaw25_EncloseHolds.Pure := by
  intro x a b v _ la wa _ lb wb hv
  apply Ev.rounds
  have jt : Ev (fun k => steelyardlaw25_EncloseHolds.j0 k v true x a b) true := Ev.succ (by simp only [steelyardlaw25_EncloseHolds.j0]; exact Ev.ifp trivial (Ev.bind wakes25 (Ev.now _)))
  obtain ⟨p, hp, hpe⟩ := tmod20 hv
  have hp1 : p ≤ 60 := by omega
  unfold steelyardlaw25_EncloseHolds.f
  rcases good20 (x := x) wa wb la lb with hg | ⟨hg, q, hq, rfl, rfl, rfl⟩
  · exact Ev.bind hg (Ev.ifn (by decide) jt)
  refine Ev.bind hg (Ev.ifp rfl ?_)
  by_cases l1 : ((cz q.num).2.length : Int) > 12
  · exact Ev.ifp l1 jt
  refine Ev.ifn l1 ?_
  by_cases l2 : ((L q.den).length : Int) > 12
  · rw [decide_eq_true l2]; exact jt
  rw [decide_eq_false l2]
  refine Ev.succ ?_
  simp only [steelyardlaw25_EncloseHolds.j0]
  rw [hpe]
  refine Ev.ifn (by decide) ?_
  by_cases c : q.num < 0
  · refine Ev.bind (eRoot_neg hq c hp1) (Ev.bind (qSign_to hq) (Ev.ifp (by rw [cmpQ_0, cmpZ_lt c]; decide) ?_))
    exact Ev.ifp rfl (Ev.ifp rfl (Ev.ifp rfl (Ev.bind wakes25 (Ev.now _))))
  have h0 : 0 ≤ q.num := by omega
  have sl := RL_Qs hq hp1
  have sh := RH_Qs hq hp1
  have neg : ¬ cmpQ q 0 < 0 := by rw [cmpQ_0]; rcases cmpZ_cases q.num 0 with ⟨h', e⟩ | ⟨h', e⟩ | ⟨h', e⟩ <;> omega
  refine Ev.bind (eRoot_yes hq h0 hp1) (Ev.bind (qSign_to hq) (Ev.ifn neg (Ev.ifp rfl (Ev.bind (qSign_to sl) ?_))))
  have g0 := cmpQ_ge (RL_nn q p)
  rw [decide_eq_false (by omega)]
  have s10 : Qs (mkRat 1 10) := by decide +kernel
  have b1 := By_to (u := 1) (n := 1) (q := mkRat 1 (10 ^ 0)) (by omega) (by omega) (by omega) (by omega) rfl (by decide +kernel)
  have b2 := By_to (u := 1) (n := 10) (by omega) (by omega) (by omega) (by omega) rfl s10
  have st : ∀ i, i ≤ 60 → Qs (mkRat 1 (10 ^ i)) := fun i hi => Qs_ten (lt_num (by decide) (by omega)) hi
  have sq1 := rTimesQ_to (Qs_m sl) (Qs_m sl) (by omega) rfl
  have sq2 := rTimesQ_to (Qs_m sh) (Qs_m sh) (by omega) rfl
  have ls1 := rLessQ_to (Qm_mul (Qs_m sl) (Qs_m sl)) (Qs_m hq) (by omega)
  have ls2 := rLessQ_to (Qm_mul (Qs_m sh) (Qs_m sh)) (Qs_m hq) (by omega)
  have c1 := cmpQ_le (RL_sq (p := p) h0)
  have c2 := cmpQ_ge (RH_sq (p := p) h0)
  have gs : Qs (mkRat ((hi q p : Int) - (lo q p : Int)) (10 ^ p)) := Qs_ten (lt_num (by rcases lo_hi q p with e | e <;> omega) (by omega)) hp1
  have gz : hi q p = lo q p → mkRat ((hi q p : Int) - (lo q p : Int)) (10 ^ p) = 0 := fun e => by rw [e, Int.sub_self]; exact Rat.zero_mkRat _
  have go : hi q p = lo q p + 1 → mkRat ((hi q p : Int) - (lo q p : Int)) (10 ^ p) = mkRat 1 (10 ^ p) := fun e => by rw [e]; congr 1; omega
  have on : mkRat 1 (10 ^ p) ≠ 0 := fun e => by
    have := (eqS (tenS (p + 0)) (mkS 1 p 0) (y := 0) (w := 0) (by rw [Rat.zero_mul]; rfl)).1 e
    rw [show ((10 ^ 0 : Nat) : Int) = 1 from rfl] at this
    omega
  have j3 : Ev (fun k => steelyardlaw25_EncloseHolds.j3 k false (cz q.num).1 (cz q.num).2 (L q.den) (cz (RL q p).num).1 (cz (RL q p).num).2 (L (RL q p).den) (cz (mkRat 1 (10 ^ p)).num).1 (cz (mkRat 1 (10 ^ p)).num).2 (L (mkRat 1 (10 ^ p)).den) (cz (mkRat ((hi q p : Int) - (lo q p : Int)) (10 ^ p)).num).1 (cz (mkRat ((hi q p : Int) - (lo q p : Int)) (10 ^ p)).num).2 (L (mkRat ((hi q p : Int) - (lo q p : Int)) (10 ^ p)).den)) true := by
    refine Ev.succ ?_
    simp only [steelyardlaw25_EncloseHolds.j3]
    refine Ev.ifn (by decide) (Ev.bind (rLessQ_to (Qs_m gs) (Qs_m (st p hp1)) (by omega)) ?_)
    have le := RL_eq (q := q) (p := p) h0
    rcases lo_hi q p with e | e
    · have z : cmpQ (RL q p * RL q p) q = 0 := (cmpQ_zero _ _).2 (le.2 e)
      have h00 : (((cz (Rat.num 0)).2.length : Nat) : Int) = 0 := (len0 (n := 0)).2 rfl
      rw [gz e]
      exact Ev.ifn (fun h => on ((cmpQ_zero _ _).1 h).symm) (Ev.ifp h00 (Ev.bind sq1 (Ev.bind ls1 (Ev.ifp z (Ev.bind wakes25 (Ev.now _))))))
    · have z : ¬ cmpQ (RL q p * RL q p) q = 0 := fun h => by have := le.1 ((cmpQ_zero _ _).1 h); omega
      have nz : ¬ (((cz (mkRat 1 (10 ^ p)).num).2.length : Nat) : Int) = 0 := fun h => by
        rw [cz2, len0] at h
        exact on (Rat.num_eq_zero.1 (Int.natAbs_eq_zero.1 h))
      rw [go e]
      refine Ev.ifp (cmpQ_eq _) (Ev.bind sq1 (Ev.bind ls1 (Ev.ifp ?_ (Ev.bind wakes25 (Ev.now _)))))
      rw [beq_eq_false_iff_ne.2 nz, beq_eq_false_iff_ne.2 z]; rfl
  have loop : ∀ (e i : Nat), i + e = p → Ev (fun k => steelyardlaw25_EncloseHolds.l0 k (p : Int) (i : Int) (cz q.num).1 (cz q.num).2 (L q.den) (cz (RL q p).num).1 (cz (RL q p).num).2 (L (RL q p).den) (cz (RH q p).num).1 (cz (RH q p).num).2 (L (RH q p).den) (cz (mkRat 1 (10 ^ i)).num).1 (cz (mkRat 1 (10 ^ i)).num).2 (L (mkRat 1 (10 ^ i)).den)) true := by
    intro e
    induction e with
    | zero =>
      intro i hi'
      rw [Nat.add_zero] at hi'
      subst hi'
      refine Ev.succ ?_
      simp only [steelyardlaw25_EncloseHolds.l0]
      refine Ev.ifn (by omega) (Ev.bind (rNegQ_to sl) (Ev.bind (rPlusQ_to (Qs_m sh) (Qs_m (Qs_neg sl)) (by omega) (gap_to q i)) (Ev.bind sq1 (Ev.bind ls1 (Ev.ifn (by omega) (Ev.bind sq2 (Ev.bind ls2 ?_)))))))
      rw [decide_eq_false (by omega)]
      exact j3
    | succ e ih =>
      intro i hi'
      refine Ev.succ ?_
      simp only [steelyardlaw25_EncloseHolds.l0]
      rw [w64_succ (by omega)]
      exact Ev.ifp (by omega) (Ev.bind b2 (Ev.bind (rTimesQ_to (Qs_m (st i (by omega))) (Qs_m s10) (by omega) (step_mul i)) (ih (i + 1) (by omega))))
  refine Ev.succ ?_
  simp only [steelyardlaw25_EncloseHolds.j1]
  exact Ev.ifn (by decide) (Ev.bind b1 (loop p 0 (by omega)))
end Go.Proofs.YtjgmmaeafodpmaaDoor.Pure
