/- Of a greater number both bounds of the root are not less. -/
import Derived.Test.YtjgmmaeafodpmaaDoorMm
import Derived.Test.YtjgmmaeafodpmaaDoorPxlawEncloseOrder
set_option linter.unusedVariables false
set_option linter.unusedSimpArgs false
namespace Go.Proofs.YtjgmmaeafodpmaaDoor.Pure
open Go.RowKit Go.Proofs.YtjgmmaeafodpmaaDoor.P Go.Proofs.YtjgmmaeafodpmaaDoorW.PrintWords Go.Proofs.YtjgmmaeafodpmaaDoorW.PrintMore Go.Proofs.YtjgmmaeafodpmaaDoor.Lib
theorem EncloseOrder : steelyardlaw25_EncloseOrder.Pure := by
  intro x a b y c d v _ la wa _ lb wb _ lc wc _ ld wd hv
  apply Ev.rounds
  have jt : Ev (fun k => steelyardlaw25_EncloseOrder.j0 k v true x a b y c d) true := Ev.succ (by simp only [steelyardlaw25_EncloseOrder.j0]; exact Ev.ifp trivial (Ev.bind wakes25 (Ev.now _)))
  obtain ⟨p, hp, hpe⟩ := tmod20 hv
  have hp1 : p ≤ 60 := by omega
  have core : ∀ {q r : Rat}, Qs q → Qs r → 0 ≤ q.num → 0 ≤ r.num → q ≤ r → Ev (fun k => steelyardlaw25_EncloseOrder.j1 k v (cz q.num).1 (cz q.num).2 (L q.den) (cz r.num).1 (cz r.num).2 (L r.den)) true := by
    intro q r hq hr h0 h1 h
    refine Ev.succ ?_
    simp only [steelyardlaw25_EncloseOrder.j1]
    rw [hpe]
    refine Ev.bind (eRoot_yes hq h0 hp1) (Ev.bind (eRoot_yes hr h1 hp1) (Ev.ifp rfl (Ev.ifp rfl ?_)))
    exact Ev.bind (qCmp_to (RL_Qs hq hp1) (RL_Qs hr hp1)) (Ev.ifp (cmpQ_le (RL_order h h0 h1)) (Ev.bind (qCmp_to (RH_Qs hq hp1) (RH_Qs hr hp1)) (Ev.ifp (cmpQ_le (RH_order h h0 h1)) (Ev.bind wakes25 (Ev.now _)))))
  unfold steelyardlaw25_EncloseOrder.f
  rcases good20 (x := x) wa wb la lb with hg | ⟨hg, q, hq, rfl, rfl, rfl⟩
  · exact Ev.bind hg (Ev.ifn (by decide) jt)
  refine Ev.bind hg (Ev.ifp rfl ?_)
  rcases good20 (x := y) wc wd lc ld with hk | ⟨hk, r, hr, rfl, rfl, rfl⟩
  · exact Ev.bind hk (Ev.ifn (by decide) jt)
  refine Ev.bind hk (Ev.ifp rfl ?_)
  by_cases l1 : ((cz q.num).2.length : Int) > 8
  · exact Ev.ifp l1 jt
  refine Ev.ifn l1 ?_
  by_cases l2 : ((L q.den).length : Int) > 8
  · exact Ev.ifp l2 jt
  refine Ev.ifn l2 ?_
  by_cases l3 : ((cz r.num).2.length : Int) > 8
  · exact Ev.ifp l3 jt
  refine Ev.ifn l3 ?_
  by_cases l4 : ((L r.den).length : Int) > 8
  · exact Ev.ifp l4 jt
  refine Ev.ifn l4 (Ev.bind (qSign_to hq) ?_)
  rw [cmpQ_0]
  by_cases c1 : q.num < 0
  · exact Ev.ifp (by rw [cmpZ_lt c1]; decide) jt
  refine Ev.ifn (by rcases cmpZ_cases q.num 0 with ⟨h', e⟩ | ⟨h', e⟩ | ⟨h', e⟩ <;> omega) (Ev.bind (qSign_to hr) ?_)
  rw [cmpQ_0]
  by_cases c2 : r.num < 0
  · rw [decide_eq_true (by rw [cmpZ_lt c2]; decide)]; exact jt
  rw [decide_eq_false (by rcases cmpZ_cases r.num 0 with ⟨h', e⟩ | ⟨h', e⟩ | ⟨h', e⟩ <;> omega)]
  refine Ev.succ ?_
  simp only [steelyardlaw25_EncloseOrder.j0]
  refine Ev.ifn (by decide) (Ev.bind (qCmp_to hq hr) ?_)
  rcases cmpQ_cases q r with ⟨h, e⟩ | ⟨h, e⟩ | ⟨h, e⟩
  · exact Ev.ifn (by omega) (core hq hr (by omega) (by omega) (Rat.le_of_lt h))
  · exact Ev.ifn (by omega) (core hq hr (by omega) (by omega) (h ▸ Rat.le_refl))
  · exact Ev.ifp (by omega) (core hr hq (by omega) (by omega) (Rat.le_of_lt h))
end Go.Proofs.YtjgmmaeafodpmaaDoor.Pure
