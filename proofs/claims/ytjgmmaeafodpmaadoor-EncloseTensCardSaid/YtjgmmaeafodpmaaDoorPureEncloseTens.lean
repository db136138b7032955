/- Of a number times 100 the bounds with a place fewer are ten times those with it. -/
import Derived.Test.YtjgmmaeafodpmaaDoorMm
import Derived.Test.YtjgmmaeafodpmaaDoorPxlawEncloseTens
set_option linter.unusedVariables false
set_option linter.unusedSimpArgs false
namespace Go.Proofs.YtjgmmaeafodpmaaDoor.Pure
open Go.RowKit Go.Proofs.YtjgmmaeafodpmaaDoor.P Go.Proofs.YtjgmmaeafodpmaaDoorW.PrintWords Go.Proofs.YtjgmmaeafodpmaaDoorW.PrintMore Go.Proofs.YtjgmmaeafodpmaaDoor.Lib
theorem EncloseTens : steelyardlaw25_EncloseTens.Pure := by
  intro x a b v _ la wa _ lb wb hv
  apply Ev.rounds
  have jt : Ev (fun k => steelyardlaw25_EncloseTens.j0 k v true x a b) true := Ev.succ (by simp only [steelyardlaw25_EncloseTens.j0]; exact Ev.ifp trivial (Ev.bind wakes25 (Ev.now _)))
  obtain ⟨p, hp, hpe⟩ := tmod20 hv
  unfold steelyardlaw25_EncloseTens.f
  rcases good20 (x := x) wa wb la lb with hg | ⟨hg, q, hq, rfl, rfl, rfl⟩
  · exact Ev.bind hg (Ev.ifn (by decide) jt)
  refine Ev.bind hg (Ev.ifp rfl ?_)
  by_cases l1 : ((cz q.num).2.length : Int) > 8
  · exact Ev.ifp l1 jt
  refine Ev.ifn l1 ?_
  by_cases l2 : ((L q.den).length : Int) > 8
  · exact Ev.ifp l2 jt
  refine Ev.ifn l2 (Ev.bind (rSign_to hq) ?_)
  obtain ⟨h1, h2⟩ := len20 hq (by omega) (by omega)
  rw [cmpQ_0]
  by_cases c : q.num < 0
  · rw [decide_eq_true (by rw [cmpZ_lt c]; decide)]; exact jt
  rw [decide_eq_false (by rcases cmpZ_cases q.num 0 with ⟨h', e⟩ | ⟨h', e⟩ | ⟨h', e⟩ <;> omega)]
  have h0 : 0 ≤ q.num := by omega
  have hp1 : p + 1 ≤ 60 := by omega
  have wp : wrap64 (1 + (p : Int)) = ((p + 1 : Nat) : Int) := by rw [w64 (by omega) (by omega)]; omega
  have wm : wrap64 (((p + 1 : Nat) : Int) - 1) = (p : Int) := by rw [w64 (by omega) (by omega)]; omega
  have s1 : Qs ((100 : Int) : Rat) := Qs_int (by omega)
  have s2 : Qs ((10 : Int) : Rat) := Qs_int (by omega)
  have b1 := By_to (u := 100) (n := 1) (q := ((100 : Int) : Rat)) (by omega) (by omega) (by omega) (by omega) (by decide +kernel) s1
  have b2 := By_to (u := 10) (n := 1) (q := ((10 : Int) : Rat)) (by omega) (by omega) (by omega) (by omega) (by decide +kernel) s2
  obtain ⟨r, hr⟩ : ∃ r, q * ((100 : Int) : Rat) = r := ⟨_, rfl⟩
  obtain ⟨c1, _⟩ := cross_100 hr h0
  have sr : Qs r := by
    have := Qm_mul (m := 20) (p := 2) (q := q) (r := ((100 : Int) : Rat)) ⟨h1, h2⟩ ⟨lt_num (by decide) (by omega), one_lt_Bp (by omega)⟩
    rw [hr] at this
    exact Qm_up this (by omega)
  obtain ⟨e1, e2⟩ := RL_100 (p := p) hr h0
  refine Ev.succ ?_
  simp only [steelyardlaw25_EncloseTens.j0]
  rw [hpe, wp, wm]
  refine Ev.ifn (by decide) (Ev.bind (eRoot_yes hq h0 hp1) (Ev.bind b1 (Ev.bind (rTimesQ_to (Qs_m hq) (Qs_m s1) (by omega) hr) (Ev.bind (eRoot_yes sr c1 (by omega)) (Ev.bind b2 (Ev.ifp rfl (Ev.ifp rfl ?_)))))))
  refine Ev.bind (rTimesQ_to (Qs_m (RL_Qs hq hp1)) (Qs_m s2) (by omega) rfl) (Ev.bind (keepQ_to (RL_Qs sr (by omega)) e1) (Ev.ifp rfl ?_))
  exact Ev.bind (rTimesQ_to (Qs_m (RH_Qs hq hp1)) (Qs_m s2) (by omega) rfl) (Ev.bind (keepQ_to (RH_Qs sr (by omega)) e2) (Ev.ifp rfl (Ev.bind wakes25 (Ev.now _))))
end Go.Proofs.YtjgmmaeafodpmaaDoor.Pure
