/- With more places the bounds of a root come nearer; of a square both are its root. -/
import Derived.Test.YtjgmmaeafodpmaaGreatDoorMm
import Derived.Test.YtjgmmaeafodpmaaGreatDoorPxlawEncloseMore
set_option linter.unusedVariables false
set_option linter.unusedSimpArgs false
namespace Go.Proofs.YtjgmmaeafodpmaaGreatDoor.Pure
open Go.RowKit Go.Proofs.YtjgmmaeafodpmaaGreatDoor.P Go.Proofs.YtjgmmaeafodpmaaGreatDoorW.PrintWords Go.Proofs.YtjgmmaeafodpmaaGreatDoorW.PrintMore Go.Proofs.YtjgmmaeafodpmaaGreatDoor.Lib
theorem EncloseMore : steelyardlaw25_EncloseMore.Pure := by
  intro x a b v w _ la wa _ lb wb hv hw
  apply Ev.rounds
  have jt : Ev (fun k => steelyardlaw25_EncloseMore.j0 k v w true x a b) true := Ev.succ (by simp only [steelyardlaw25_EncloseMore.j0]; exact Ev.ifp trivial (Ev.bind wakes25 (Ev.now _)))
  obtain ⟨p, hp, hpe⟩ := tmod20 hv
  obtain ⟨j, hj, hje⟩ := tmod10 hw
  have bw := bounds_u8 hw
  obtain ⟨n, rfl⟩ := Int.eq_ofNat_of_zero_le bw.1
  have wn : wrap64 (n : Int) = n := w64 (by omega) (by omega)
  unfold steelyardlaw25_EncloseMore.f
  rcases good20 (x := x) wa wb la lb with hg | ⟨hg, q, hq, rfl, rfl, rfl⟩
  · exact Ev.bind hg (Ev.ifn (by decide) jt)
  refine Ev.bind hg (Ev.ifp rfl ?_)
  by_cases l1 : ((cz q.num).2.length : Int) > 6
  · exact Ev.ifp l1 jt
  refine Ev.ifn l1 ?_
  by_cases l2 : ((L q.den).length : Int) > 6
  · exact Ev.ifp l2 jt
  refine Ev.ifn l2 (Ev.bind (rSign_to hq) ?_)
  rw [cmpQ_0]
  by_cases c : q.num < 0
  · rw [decide_eq_true (by rw [cmpZ_lt c]; decide)]; exact jt
  rw [decide_eq_false (by rcases cmpZ_cases q.num 0 with ⟨h', e⟩ | ⟨h', e⟩ | ⟨h', e⟩ <;> omega)]
  have h0 : 0 ≤ q.num := by omega
  have hp1 : p ≤ 60 := by omega
  have hp2 : p + j ≤ 60 := by omega
  have wp : wrap64 ((p : Int) + (j : Int)) = ((p + j : Nat) : Int) := by rw [w64 (by omega) (by omega)]; omega
  have sn : Qs ((n : Int) : Rat) := Qs_int (by omega)
  have b1 := By_to (u := (n : Int)) (n := 1) (q := ((n : Int) : Rat)) (by omega) (by omega) (by omega) (by omega) (by rw [mk_div]; grind) sn
  have hnn : ((n : Int) * (n : Int)).natAbs ≤ 255 * 255 := by rw [Int.natAbs_mul, Int.natAbs_natCast]; exact Nat.mul_le_mul (by omega) (by omega)
  have snn : Qs (((n : Int) * (n : Int) : Int) : Rat) := Qs_int (by omega)
  have hnz : 0 ≤ ((((n : Int) * (n : Int) : Int) : Rat)).num := by rw [num_int]; exact Int.mul_nonneg (by omega) (by omega)
  obtain ⟨e1, e2⟩ := sq_bounds n p
  refine Ev.succ ?_
  simp only [steelyardlaw25_EncloseMore.j0]
  rw [hpe, hje, wp, wn]
  refine Ev.ifn (by decide) (Ev.bind (eRoot_yes hq h0 hp1) (Ev.bind (eRoot_yes hq h0 hp2) (Ev.bind b1 (Ev.bind b1 ?_))))
  refine Ev.bind (rTimesQ_to (Qs_m sn) (Qs_m sn) (by omega) (s := (((n : Int) * (n : Int) : Int) : Rat)) (by rw [Rat.intCast_mul])) (Ev.bind (eRoot_yes snn hnz hp1) (Ev.ifp rfl (Ev.ifp rfl ?_)))
  refine Ev.bind (qCmp_to (RL_Qs hq hp1) (RL_Qs hq hp2)) (Ev.ifp (cmpQ_le (RL_step q p j)) (Ev.bind (qCmp_to (RH_Qs hq hp1) (RH_Qs hq hp2)) (Ev.ifp (cmpQ_ge (RH_step q p j)) (Ev.ifp rfl (Ev.bind b1 ?_)))))
  exact Ev.bind (keepQ_to (RL_Qs snn hp1) e1) (Ev.ifp rfl (Ev.bind (keepQ_to (RH_Qs snn hp1) (by rw [e1, e2])) (Ev.ifp rfl (Ev.bind wakes25 (Ev.now _)))))
end Go.Proofs.YtjgmmaeafodpmaaGreatDoor.Pure
